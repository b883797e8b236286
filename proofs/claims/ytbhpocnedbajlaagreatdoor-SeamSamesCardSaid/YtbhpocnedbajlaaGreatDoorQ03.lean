/- Part of a proof. -/
import Derived.Test.YtbhpocnedbajlaaGreatDoorQ02
import Derived.Test.YtbhpocnedbajlaaGreatDoorProg
import Derived.Conc.WgWords
set_option maxRecDepth 100000
set_option maxHeartbeats 6400000
noncomputable section
set_option linter.all false
def k! {p:Prop}(h:p:=by kernel_rfl):p:=h
open Array renaming replicate->Yu,getElem?_append_left->zr,getElem?_append_right->Zan,getD_eq_getD_getElem?->Yp,getElem?_eq_some_iff->Za,getElem?_setIfInBounds_ne->Zk,getElem?_setIfInBounds_self_of_lt->ZV
open Bool renaming and_eq_true->ZF,not_eq_true'->ZcF
open Go renaming Frame->ZM,Value->Zf,undef->Ze,World->Zb,stepG->za,callFunc->Zz,TypeId->Zs,Goroutine->Zi,Program->Zo,Event->Z9,execOp->Zby,Operand->Zbv
open Go.Act renaming eval->ZbM
open Go.Code renaming region->zU,cond->Zcs
open Go.Conc renaming stepG_seq->Zn,stepG_region_end->Zg,served->YU,QuitsD->ZcA,goes_oper_k->zx,mem_listed->zO
open Go.Conc.Goes renaming stop->ZT
open Go.Frame renaming enter->Zq
open Go.GStep renaming after->zM
open Go.Instr renaming build->Zbg
open Go.Proofs.Tryz renaming prog->Zc,func88->Zdu,f88->Za7,runUnderlying165->ZdH,zeroValue165->Zcy
open Go.Region renaming wanted->Yf
open Go.Value renaming slice->Zy
open Go.World renaming cell?_of_block->zn
open List renaming range->Yr,all_eq_true->Zdm
open Nat renaming le_refl->Zj,lt_of_lt_of_le->Zl
open Nat.succ renaming inj->ZE
open Ne renaming symm->Za0
open Option renaming getD_some->Zw
namespace Go.Proofs
abbrev Tryz.link:Go.Conc.Lib.WgLink:= {add:=87,done:=89,wait:=90,relMerge:=105,disable:=106,enable:=107,inBubble:=108,associate:=109,fatal:=110,uOr:=111,uAdd:=112,raceRead:=113,uLoad:=114,uStore:=115,disassociate:=116,semrelease:=117,acquire:=118,isAssociated:=119,uCas:=120,raceWrite:=121,semacquire:=122,orU64:=128,addU64:=129,loadU64:=130,storeU64:=131,casU64:=132,tWgP:=190,tUP:=169,tAssoc:=192,tWg:=162,tAU:=159,tU64:=73,tUint:=185,tU32:=160,tPU32:=196,tPAU:=219,tPU64:=221,tNoCopy:=155,tANoCopy:=156,tAlign64:=157}
def Tryz.UI:Go.Conc.Lib.WgLib Zc Tryz.link:=
 ⟨Tryz.func87,Tryz.func89,Tryz.func90,Tryz.func105,Tryz.func106,Tryz.func107,Tryz.func108,Tryz.func109,Tryz.func110,Tryz.func111,Tryz.func112,Tryz.func113,Tryz.func114,Tryz.func115,Tryz.func116,Tryz.func117,Tryz.func118,Tryz.func119,Tryz.func120,Tryz.func121,Tryz.func122,Tryz.func128,Tryz.func129,Tryz.func130,Tryz.func131,Tryz.func132,Tryz.underlying190,Tryz.runUnderlying190,Tryz.sizeOf190,Tryz.isAgg190,Tryz.zeroValue190,Tryz.underlying169,Tryz.runUnderlying169,Tryz.sizeOf169,Tryz.isAgg169,Tryz.zeroValue169,Tryz.underlying192,Tryz.runUnderlying192,Tryz.sizeOf192,Tryz.isAgg192,Tryz.zeroValue192,Tryz.underlying162,Tryz.runUnderlying162,Tryz.sizeOf162,Tryz.isAgg162,Tryz.zeroValue162,Tryz.underlying159,Tryz.runUnderlying159,Tryz.sizeOf159,Tryz.isAgg159,Tryz.zeroValue159,Tryz.underlying73,Tryz.runUnderlying73,Tryz.sizeOf73,Tryz.isAgg73,Tryz.zeroValue73,Tryz.underlying185,Tryz.runUnderlying185,Tryz.sizeOf185,Tryz.isAgg185,Tryz.zeroValue185,Tryz.underlying160,Tryz.runUnderlying160,Tryz.sizeOf160,Tryz.isAgg160,Tryz.zeroValue160,Tryz.underlying196,Tryz.runUnderlying196,Tryz.sizeOf196,Tryz.isAgg196,Tryz.zeroValue196,Tryz.underlying219,Tryz.runUnderlying219,Tryz.sizeOf219,Tryz.isAgg219,Tryz.zeroValue219,Tryz.underlying221,Tryz.runUnderlying221,Tryz.sizeOf221,Tryz.isAgg221,Tryz.zeroValue221,Tryz.underlying0,Tryz.runUnderlying0,Tryz.sizeOf0,Tryz.isAgg0,Tryz.zeroValue0,Tryz.underlying3,Tryz.runUnderlying3,Tryz.sizeOf3,Tryz.isAgg3,Tryz.zeroValue3,Tryz.underlying4,Tryz.runUnderlying4,Tryz.sizeOf4,Tryz.isAgg4,Tryz.zeroValue4,Tryz.underlying9,Tryz.runUnderlying9,Tryz.sizeOf9,Tryz.isAgg9,Tryz.zeroValue9,Tryz.underlying20,Tryz.runUnderlying20,Tryz.sizeOf20,Tryz.isAgg20,Tryz.zeroValue20,Tryz.underlying21,Tryz.runUnderlying21,Tryz.sizeOf21,Tryz.isAgg21,Tryz.zeroValue21,k!,k!⟩
end Go.Proofs
namespace Go.Proofs.Fit
open Go Go.Conc Go.FA Go.Pair Go.RowKit Go.Conc.Lib Go.ConcR.Gen Go.ConcN.Gen
open Go.ConcN (WgLive)
open Go.ConcR (DC0)
def lef:Code->Code
 | .seq a _=>a
 |c=>c
def rN:Code->Code
 | .seq _ b=>b
 |c=>c
def bot:ZM:= {(default:ZM) with fn:=Tryz.prog.funcs.size,defers:=[],mode:=.panicking [goexitEntry]}
def Gb:Code:=Tryz.f88.body.getD .skip
def Jd:Code:=lef (rN (rN Gb))
def Ny:Code:=rN (rN (rN Gb))
def TS:ZM:=baseD 88
def ptr (b:Nat):Zf:=.pointer b
def IL (Wg l p g s f:Nat):Array Zf:= #[ptr Wg,ptr l,ptr p,ptr g,ptr s,ptr f]
def call156 (Wg l p g s f:Nat):Deferred:= {target:=.fn (.func 88) (IL Wg l p g s f),args:= #[]}
def Et (n:Nat):Array Zf:=Yu n Ze
def jL (Wg l p g s f:Nat)(w:Zb):za Zc false (born Zc (call156 Wg l p g s f)) w=
  .go (G (TS.at ⟨IL Wg l p g s f++Et 34,[]⟩ [.code Gb]) [bot]) w #[]:=by
 simp[born,call156,IL,Et,ptr,za,unwind,callDeferred,invoke,Zz,Zdu,Za7,seen,zM,G,Zq,Frame.at,TS,baseD,bot,Gb]
variable {ty:Zs}
variable {Wg b Ch f p n:Nat}
variable {S Lk:Nat->Prop}
variable {w w₁ wl:Zb}
def Dp (h:True)(_:Ah ty Wg S w w₁):True:=h
def tk (Wg l p g s f:Nat)(v:Zf):(IL Wg l p g s f++Et 34).setIfInBounds 6 v=IL Wg l p g s f++ #[v]++Et 33:=by
 apply Array.ext';simp[IL,Et,List.replicate]
def alh (Wg l p g s f:Nat):((IL Wg l p g s f++Et 34)[0]?.getD Ze)=ptr Wg:=by
 rw[zr (by simp[IL])]
 rfl
def OU (Wg l p g s f:Nat):Zi:=G (TS.at ⟨IL Wg l p g s f++ #[.slice none 0 0]++Et 33,[dcall 89 #[ptr Wg]]⟩ [.code Jd,.code Ny]) [bot]
def aA (Wg l p g s f:Nat)(w:Zb):
  Goes Zc false (Ah 162 Wg S) DC0 (λh _=>h=OU Wg l p g s f) 12 (born Zc (call156 Wg l p g s f)) w:=by
 have a:True:=trivial;refine Goes.step rfl λw₁ _=>?_;rw[jL];refine⟨⟨rfl,rfl⟩,?_⟩;simp only[Gb,Za7,Zw]
 u_c Zn Dp a
 u_reg Dp a
 u_defer Dp a
 u_c Zg Dp a
 u_c Zn Dp a
 u_reg Dp a
 u_op Dp a
 u_c Zg Dp a
 u_c Zn Dp a
 refine ZT λ_ _=>?_;rw[tk,alh];simp only[OU,Jd,Ny,Gb,Za7,Zw,lef,rN]
end Go.Proofs.Fit
namespace Go.Proofs.Fit
open Go Go.Conc Go.FA Go.Pair Go.RowKit
structure Q7 (P':Zo):Prop where
 has:∃fn,P'.funcs[88]?=some fn/\fn.body=some Jd/\fn.results= #[.tmp 6,.tmp 2]/\fn.norace=false/\fn.ntmps=40
def My:Nat->Bool:=λi=>i==0||i==5
def KX (Wg f:Nat):Cut:=
 {seg:=true,dead:=My,tail:=[.code Ny],fZ:=[dcall 89 #[ptr Wg]],fn:=88,flat:=false,rv:=λi=>if i=0 then ptr Wg else ptr f,rn:=40,rk:=.deferred}
def BX (P':Zo)(Wg f:Nat):H9:=⟨KX Wg f,[C5 P'],[bot],false⟩
def gG (P':Zo)(Wg f:Nat):(BX P' Wg f).LM:=⟨λh=>h!,by simp[BX],λ_=>by simp[BX],λh=>h!⟩
def E6 (l p g s:Nat):Array Zf:= #[Ze,ptr l,ptr p,ptr g,ptr s,Ze,()]
variable {ρ:Ren}
variable {Wg b Ch f p n:Nat}
def Q8 {c:Nat}(h:ρ b=some c):VR ρ (ptr b) (ptr c):=.pointer ⟨h,rfl,rfl⟩
section
variable {P':Zo}{ρ:Ren}{Wg f l p g s l' p' g' s':Nat}
def ot (hl:ρ l=some l')(hp:ρ p=some p')(e:ρ g=some g')(d:ρ s=some s'):
  Pu My ρ (E6 l p g s++Et 33) (IL Wg l' p' g' s' f++ #[.slice none 0 0]++Et 33):=by
 refine⟨by simp[E6,IL,Et],λi x y c b a=>?_⟩;by_cases j:i<7
 .rw[zr (by simp[E6];omega)]at b
  rw[zr (by simp[IL];omega)]at a;have h:i=0\/i=1\/i=2\/i=3\/i=4\/i=5\/i=6:=o!
  rcases h with rfl|rfl|rfl|rfl|rfl|rfl|rfl
  .cases c
  .cases b;cases a;exact Q8 hl
  .cases b;cases a;exact Q8 hp
  .cases b;cases a;exact Q8 e
  .cases b;cases a;exact Q8 d
  .cases c
  cases b;cases a;exact .slice 0 0 trivial
 rw[Zan (by simp[E6];omega)]at b;rw[Zan (by simp[IL];omega)]at a;simp only[Et,Array.getElem?_replicate]at b a;split at b
 .split at a
  .cases b;cases a;exact VR.undef ρ
  cases a
 cases b
def ou (W:Q7 P')(n:Bh Zc ρ.ok My true Jd=true)(hl:ρ l=some l')(hp:ρ p=some p')(d:ρ g=some g')(b:ρ s=some s'):
  sP P' Zc (BX P' Wg f) ρ (AU (Zq P' 88 (E6 l p g s) .normal) [C5 P']) (OU Wg l' p' g' s' f):=by
 obtain⟨fn,a,m,q,k,j⟩:=W.has;have e:Zq P' 88 (E6 l p g s) .normal= {fn:=88,tmps:=E6 l p g s++Et 33,todo:=[.code Jd],defers:=[],mode:=.run,kind:=.normal,roundOf:=none}:=by
  unfold Zq;rw[a];simp[m,j,E6,Et]
 refine⟨_,_,_,_,rfl,rfl,?_⟩;rw[e];refine Gh.bot (B:=BX P' Wg f) ⟨rfl,λh=>h!,⟨D9 a k,D9 Zdu rfl⟩,ot hl hp d b,⟨[.code Jd],rfl,.cons (.code n) .nil⟩,⟨[],rfl,.nil⟩,.run,⟨rfl,.inr ⟨rfl,rfl⟩⟩,trivial,λ_=>⟨rfl,λh=>h!,rfl,rfl⟩,λh=>h!,λ_=>⟨?_,λi c=>?_,rfl⟩⟩
 .show(IL Wg l' p' g' s' f++ #[Zy none 0 0]++Et 33).size=40
  simp[IL,Et]
 show(IL Wg l' p' g' s' f++ #[Zy none 0 0]++Et 33).getD i Ze=if i=0 then ptr Wg else ptr f
 have o:i=0\/i=5:=by simpa[KX,BX,My]using c
 rw[Yp,zr (by simp[IL];omega)];rcases o with rfl|rfl<;>rfl
end
section
variable {P':Zo}{ρ:Ren}{Wg f l p g s l' p' g' s':Nat}{Lk S:Nat->Prop}{n₀ n₀':Nat}
def V_ (t:Array Zf):Zf:=.tuple #[t.getD 6 Ze,t.getD 2 Ze]
def UJ (Wg f:Nat)(Post:Zf->Zb->Prop)(ρ₀:Ren)(n₀ n₀':Nat):(Nat->Prop)->Zi->Zb->Prop:=λS h j=>
 ∃d a e g i,h=G (TS.at ⟨d,[dcall 89 #[ptr Wg]]⟩ [.code Ny]) [bot]/\d.size=40/\d.getD 5 Ze=ptr f/\Post (.tuple #[g,i]) e/\VR a g (d.getD 6 Ze)/\VR a i (d.getD 2 Ze)/\
  ρ₀.le a/\(∀b c,a b=some c->ρ₀ b=some c\/(n₀<=b/\n₀'<=c))/\n₀<=e.heap.size/\WR a e j/\∀c,S c↔∃b,a b=some c
def Nz:BP<=Tryz.prog.depth:=by decide+kernel
variable {Post:Zf->Zb->Prop}
def aC (b:Ren)(h:Zi)(w:Zb)(hl:UB (BX P' Wg f) b h):¬UD P' (BX P' Wg f) V_ Post (λ_ _=>False) h w:=by
 obtain⟨c,r,x,g,e,d,_⟩:=hl;cases e;rintro(⟨_,a,_⟩|⟨y,_,a⟩)
 .rw[d]at a
  have:=congrArg List.length a;simp[AU,BX]at this
 exact a
variable {w w₁ wl:Zb}
def ox (T:Twins P' Zc)(E:Env P' Zc ρ)(N:ρ.sp=λ_=>false)(W:Q7 P')(aB:Bh Zc ρ.ok My true Jd=true)
 (hl:ρ l=some l') (hp:ρ p=some p') (hg:ρ g=some g') (B:ρ s=some s') {w':Zb} (R:WR ρ wl w') (U:C_ Post)
 (hc:∀t,Calls P' 88 (E6 l p g s) (tp wl t) (gr Post λ_ _=>False))
 (hq:∀(v:Zf) (w:Zb),Post v w->∀(b:Nat) (o:Obj),Quiet o->wl.heap[b]?=some o->w.heap[b]?=some o)
 (M:n₀'<=w'.heap.size) (R7:∀b c,ρ b=some c->Cw wl b\/∃o,Quiet o/\wl.heap[b]?=some o) (hS:∀c,S c↔∃b,ρ b=some c):
  Xe Zc false (λc=>∃b,ρ b=some c) (UJ Wg f Post ρ wl n₀') S (OU Wg l' p' g' s' f) w':=by
 obtain⟨fn,q,n,h3,h4,h5⟩:=W.has;have V:=ou (Wg:=Wg) (f:=f) W aB hl hp hg B;have Y:Fx P' Zc (BX P' Wg f) (AU (Zq P' 88 (E6 l p g s) .normal) [C5 P']) wl:=⟨ρ,_,_,E,V,R,N⟩;have K:Dg P' (BX P' Wg f) true (UD P' (BX P' Wg f) V_ Post λ_ _=>False):=XO rfl U (λ_ _ _ x=>x);have F:Cv P' (BX P' Wg f) true (UD P' (BX P' Wg f) V_ Post λ_ _=>False) (AU (Zq P' 88 (E6 l p g s) .normal) [C5 P']) wl:=
  VM (P:=Zc) T Nz (gG P' Wg f) rfl rfl rfl (fn:=fn) q (XQ h3) U (λ_ _ _ x=>x) Y hc
 have dy:∀(g:Zi) (w:Zb),UD P' (BX P' Wg f) V_ Post (λ_ _=>False) g w->∀(b:Nat) (o:Obj),(Quiet o/\wl.heap[b]?=some o)->w.heap[b]?=some o:=by
  rintro g w (⟨_,_,h⟩|⟨x,_,h⟩) b o ⟨q,n⟩
  .exact hq _ w h b o q n
  exact h.elim
 have Az:∀(b:Nat) (o:Obj),(Quiet o/\wl.heap[b]?=some o)->b<wl:=λb o h=>(Za.1 h.2).1;have H:Nr P' Zc (BX P' Wg f) (λb o=>Quiet o/\wl.heap[b]?=some o) ρ wl n₀' (λc=>∃b,ρ b=some c) S ρ (AU (Zq P' 88 (E6 l p g s) .normal) [C5 P']) wl (OU Wg l' p' g' s' f) w':=
  ⟨E,Ren.le_refl _,λ_ _ h=>.inl h,⟨Zj _,M⟩,.inl V,R,λc ⟨b,Z⟩=>⟨b,Z,(R7 b c Z).imp id λ⟨o,q,n⟩=>⟨o,⟨q,n⟩,n⟩⟩,hS⟩
 have hR:=KL (m':=false) T Nz (gG P' Wg f) K (D:=λg w=>Fx P' Zc (BX P' Wg f) g w\/Hs (BX P' Wg f) g\/P9 (BX P' Wg f) g) (λg w t AH w₁ es h hn B=>Fx.out T Nz (gG P' Wg f) rfl h hn B)
  (J:=λb o=>Quiet o/\wl.heap[b]?=some o) (λb o h=>⟨h.1,Az b o h⟩)
  (λg w hD hz F b o h=>Mr T Nz (gG P' Wg f) K (λb o h=>h.1) dy F hD b o h (Zl (Az b o h) hz))
  (λu h w _ hl=>aC u h w hl) F (.inl Y) S ρ _ _ H
 refine hR.imp λFO h w₁ hx=>?_;rcases hx with⟨u,z,GR,B_,d⟩|⟨u,z,GR,t,_,i,d⟩
 .rcases B_ with⟨ha,ac,UK⟩|⟨y,_,hF⟩
  .have j:(BX P' Wg f).K.seg=true/\z.callers.length=(BX P' Wg f).lcs.length/\z.frame.mode=.run/\z.frame.todo=[]:=ha.elim id λx=>by cases x.1
   rcases d.goes with gC|Ga|i
   .obtain⟨fr,cs,a,I,rfl,rfl,hk⟩:=gC
    obtain⟨e1,e2,hF⟩:=hk.VL j.2.1;obtain⟨k1,k2,Q⟩:=hF.Ar rfl;have AM:a.mode=.run:=(RR hF).1 j.2.2.1;have X:a.todo=[.code Ny]:=by
     obtain⟨k,A,m⟩:=hF.todo;have q3:fr.todo=[]:=j.2.2.2;rw[q3]at m;rw[A,m.RM];rfl
    have O:a.defers=[dcall 89 #[ptr Wg]]:=by
     obtain⟨k,A,m⟩:=hF.defers;rw[(hF.part rfl).2.2.1]at m;rw[A,m.RM];rfl
    have KB:a.roundOf=none:=by
     have:=hF.round;rw[(hF.part rfl).1]at this;cases e:a.roundOf with
     |none=>rfl
     |some x=>rw[e]at this;exact this.elim
    have G9:a.fn=88:=by rw[hF.fn,(hF.part rfl).2.2.2];rfl
    have C:a=TS.at ⟨a.tmps,[dcall 89 #[ptr Wg]]⟩ [.code Ny]:=by
     obtain⟨a1,a2,a3,a4,a5,a6,a7⟩:=a;dsimp only at AM X O KB G9 Q;subst AM X O KB G9 Q
     rfl
    have L:AU a I=G (TS.at ⟨a.tmps,[dcall 89 #[ptr Wg]]⟩ [.code Ny]) [bot]:=by
     rw[e2, <-C];rfl
    refine⟨a.tmps,u,GR,_,_,L,k1,?_,UK,hF.tmps.getD 6 rfl,hF.tmps.getD 2 rfl,d.le,d.fresh,d.size.1,d.world,d.holds⟩;have:=k2 5 rfl;exact this
   .cases Ga.1
   obtain⟨nY,_,_,_,_,_,_,_,r,_⟩:=i;rw[d.le.2.2.2,N]at r;cases r
  exact hF.elim
 obtain⟨nY,_,_,_,_,_,_,_,r,_⟩:=i;rw[d.le.2.2.2,N]at r;cases r
end
end Go.Proofs.Fit
namespace Go.Proofs.Fit
open Go Go.Conc Go.FA Go.Pair Go.RowKit Go.Conc.Lib Go.ConcR.Gen Go.ConcN.Gen
open Go.ConcN (WgLive)
open Go.ConcR (DC0)
def af2:(Tryz.f89.name== "runtime.NumGoroutine")=false:=k!
@[go_sem] def af3 (k:Int)(a:Option Addr)(n c:Nat)(w:Zb):(Zbg 165 #[(0,.int .i64 k),(1,.slice a n c)]).run Zc w=.ok (.agg #[.int .i64 k,.slice a n c]) w:=by
 unfold Zbg;simp[go_sem,ZdH,Zcy]
@[go_sem] def ada (k:Int)(a:Option Addr)(n c:Nat)(w:Zb)(es:Array Z9):(Zbg 165 #[(0,.int .i64 k),(1,.slice a n c)]).events Zc w es=es:=by
 unfold Zbg;simp[go_sem,ZdH,Zcy]
def UL (b:ZM)(a:Act)(c:Array Oper)(i:Nat)(rest:List Nat)(k:List Item)(cs:List ZM)(v:Zf):
  YU (G (b.at a (.inRegion c (i::rest)::k)) cs) v=G (b.at (a.put ((c[i]?).bind (·.dst)) v) (.inRegion c rest::k)) cs:=by
 unfold YU G;rw[Frame.finish_at]
variable {P P':Zo}
variable {ty:Zs}
variable {Wg b Ch f p n:Nat}
variable {Pay:Gk}
variable {S Lk:Nat->Prop}
variable {w w₁ wl:Zb}
variable {v:Zf}
def jM {b:ZM}{a:Act}{c:Array Oper}{i:Nat}{rest:List Nat}{k:List Item}{cs:List ZM}{z:Zf}{o:Oper}(d:c[i]?=some o)(e:Yf o (yielded c a.tmps)=true)(g:b.kind≠ .early)(f:(Zby a.eval o).run P w=.ok (.comm #[scase Ch v z] true .send) w)(hl:listed P b.fn a o w= #[])(hp:Pay S v w)
 (h:∃m,Goes P false (Ah ty Wg S) DC0 (AtR0 P ty Wg S) m (G (b.at (a.put o.dst Ze) (.inRegion c rest::k)) cs) w):Pair.AtSend P ty Wg Ch Pay S (G (b.at a (.inRegion c (i::rest)::k)) cs) w:=by
 refine⟨rfl,_,v,z,(stepG_comm d e g f).trans (by rw[hl]),hp,?_⟩;rw[UL,d];exact h
structure FP (Wg f p Ch:Nat)(k:Int)(S:Nat->Prop)(Q:Zb->Prop)(w:Zb):Prop where
 fb:w.cell? f=some (.chan (some Ch))
 pb:w.cell? p=some (.int .i64 k)
 sf:S f
 sp:S p
 live:WgLive 162 Wg w
 q:Q w
variable {k:Int}
variable {Q:Zb->Prop}
def FP.rely (a:∀w w₁,Q w->Ah 162 Wg S w w₁->Q w₁)(h:FP Wg f p Ch k S Q w)(r:Ah 162 Wg S w w₁):FP Wg f p Ch k S Q w₁:=
 ⟨(zn (r.base.same f h.sf)).trans h.fb,(zn (r.base.same p h.sp)).trans h.pb,h.sf,h.sp,r.live h.live,a _ _ h.q r⟩
def gH (h:S b){a:Addr}(c:a.block=b){s:Bool}:∃a',(⟨.cell a,false,s⟩:Z9).loc=.cell a'/\S a'.block/\(⟨.cell a,false,s⟩:Z9).write=false:=⟨a,rfl,c▸h,rfl⟩
def jN (T:Array Zf):ZcA Zc 2 0 (G {TS.at ⟨T,[]⟩ []with mode:=.returning} [bot]):=by
 refine QuitsD.ctl (g':=G bot []) rfl (λw=>?_) ?_
 .simp[G,za,unwind,doReturn,results,Frame.at,TS,baseD,bot,Zdu,Za7,seen,zM,goexitEntry]
 refine QuitsD.ctl (g':= {G bot []with status:=.finished}) rfl (λw=>?_) ⟨rfl,rfl⟩;simp[G,za,unwind,bot,goexitEntry,Frame.catches]
 rfl
def Se {es:Array Z9}(h:∀e∈es,∃a,e.loc=.cell a/\S a.block/\e.write=false):LN S Lk w w es:=
 ⟨Zj _,λ_ _ _=>rfl,rfl,rfl,rfl,λe c=>by
  obtain⟨a,g,f,d⟩:=h e c;rw[Hu];unfold VN;rw[g];exact⟨f,λb=>by rw[d]at b;cases b⟩⟩
def EA {m:Bool}{R:Zb->Zb->Prop}{D:Zb->Zb->Array Z9->Prop}{St b:Zi->Zb->Prop}(hi:∀g w,St g w->b g w):∀ {n:Nat} {g:Zi} {w:Zb},Goes P m R D St n g w->Goes P m R D b n g w:=by
 intro n
 induction n with
 |zero=>intro g w h w₁ a;exact hi _ _ (h w₁ a)
 |succ n d=>
  intro g w h;rcases h with h|⟨e,h⟩
  .exact .inl λw₁ a=>hi _ _ (h w₁ a)
  refine .inr ⟨e,λw₁ a=>?_⟩;have:=h w₁ a;cases c:za P m g w₁ with
  |go i f j=>rw[c,goes_go]at this;rw[goes_go];exact⟨this.1,d this.2⟩
  |_=>rw[c]at this;exact this.elim
section
variable {P:Zo}{m:Bool}{ty:Zs}{Wg:Nat}{Lk S:Nat->Prop}{Stop:Cd}{g:Zi}{w:Zb}
def Be.tu (h:Goes P m (Ah ty Wg S) DC0 (λg w=>Be P m ty Wg Lk Stop S g w) n g w):Be P m ty Wg Lk Stop S g w:=by
 have b:Be P m ty Wg Lk (λa g w=>a=S/\Be P m ty Wg Lk Stop a g w) S g w:=Be.G2 (EA (λ_ _ h=>⟨rfl,h⟩) h);refine b.bind λa g w c=>?_;exact(c w (Ah.refl w)).2
def Be.Q9 (c:g.status=.running)
 (h:∀w₂,Ah ty Wg S w w₂->(za P m g w₂).goes λb w₁ es=>LN S Lk w₂ w₁ es/\Be P m ty Wg Lk Stop (Ib S w₂ w₁) b w₁):Be P m ty Wg Lk Stop S g w:=by
 refine Be.XS c λw₂ d=>?_;have:=h w₂ d;cases a:za P m g w₂ with
 |go b w₁ es=>
  rw[a,goes_go]at this;exact⟨_,_,_,rfl,this⟩
 |_=>rw[a]at this;exact this.elim
end
def jO {va:Option Addr}{vn vc:Nat}{a0 a1 a3 a4 a7 a8 a9 Y X W V U T R P O N M L J I H F E D C B A y x u t s r q m l:Zf}(c:∀w w₁,Q w->Ah 162 Wg S w w₁->Q w₁)(w:Zb)(hF:FP Wg f p Ch k S Q w)
 (j:∀w₂,Q w₂->Pay S (.agg #[.int .i64 k,.slice va vn vc]) w₂):
  Be Zc false 162 Wg Lk (AtSend Zc 162 Wg Ch Pay) S (G (TS.at ⟨#[a0,a1,ptr p,a3,a4,ptr f,(.slice va vn vc),a7,a8,a9,Y,X,W,V,U,T,R,P,O,N,M,L,J,I,H,F,E,D,C,B,A,y,x,u,t,s,r,q,m,l],[dcall 89 #[ptr Wg]]⟩ [.code Ny]) [bot]) w:=by
 simp only[Ny,Gb,Za7,Zw,rN,ptr];refine Be.tu (n:=2) ?_
 u_reg (FP.rely c) hF
 refine ZT λw₁ g=>?_;replace hF:=FP.rely c hF g;clear g;refine Be.Q9 rfl λw₂ Co=>?_;replace hF:=FP.rely c hF Co;clear Co;have h:=hF.fb;refine zx rfl rfl d! (λK b=>?_)
 go_simp
 refine b _ _ ⟨Se λe i=>?_,?_⟩
 .have d:=zO i
  simp[go_sem, *]at d;subst d;exact gH hF.sf rfl
 clear b K h;rw[Hu];refine Be.Q9 rfl λDZ Fv=>?_;replace hF:=FP.rely c hF Fv;clear Fv;have h:=hF.pb;refine zx rfl rfl d! (λK b=>?_)
 go_simp
 refine b _ _ ⟨Se λe i=>?_,?_⟩
 .have d:=zO i
  simp[go_sem, *]at d;subst d;exact gH hF.sp rfl
 clear b K h;rw[Hu];refine Be.G2 (n:=20) ?_
 u_op (FP.rely c) hF
 u_op (FP.rely c) hF
 refine ZT λw₁ g=>?_;replace hF:=FP.rely c hF g;clear g;have Ry:∀(a:Act) (o:Oper) (ch v:Zbv),o.op=.send ch v->a.eval ch=.chan (some Ch)->listed Zc TS.fn a o w₁= #[]:=by
  intro a o ch v ho lS;unfold listed Zby;simp[go_sem,ho,seen_none]
 refine jM (v:=.agg #[.int .i64 k,.slice va vn vc]) (z:=.tuple #[]) rfl rfl n! (by simp[Zby,scase,ZbM]) (Ry _ _ _ _ rfl rfl) (j _ hF.q) ⟨46,?_⟩;have b:=hF.live;clear hF
 walk_nrm
 u_c Zg Ag b
 u_c stepG_end Ag b
 g_unwB Ag b Tryz.func89 af2 Tryz.f89
 have Z:= @aeY Tryz.link Zc Tryz.UI Wg S;simp only[body_done,doneFn,Zw]at Z;exact Z rfl (jN _) _ b
end Go.Proofs.Fit
namespace Go.Proofs.Fit
open Go Go.Conc Go.FA Go.Pair Go.RowKit
open Go.ConcN (WgLive)
def afy (t:Array Zf)(h:t.size=40):∃R Q P O N M L K J I H G F E D C B A z y x w v u s r q p o n m k j i g f e d c b,t= #[R,Q,P,O,N,M,L,K,J,I,H,G,F,E,D,C,B,A,z,y,x,w,v,u,s,r,q,p,o,n,m,k,j,i,g,f,e,d,c,b]:=by
 obtain⟨l⟩:=t;replace h:l.length=40:=h;obtain _|⟨R,l⟩:=l
 .cases h
 replace h:=ZE h;obtain _|⟨Q,l⟩:=l
 .cases h
 replace h:=ZE h;obtain _|⟨P,l⟩:=l
 .cases h
 replace h:=ZE h;obtain _|⟨O,l⟩:=l
 .cases h
 replace h:=ZE h;obtain _|⟨N,l⟩:=l
 .cases h
 replace h:=ZE h;obtain _|⟨M,l⟩:=l
 .cases h
 replace h:=ZE h;obtain _|⟨L,l⟩:=l
 .cases h
 replace h:=ZE h;obtain _|⟨K,l⟩:=l
 .cases h
 replace h:=ZE h;obtain _|⟨J,l⟩:=l
 .cases h
 replace h:=ZE h;obtain _|⟨I,l⟩:=l
 .cases h
 replace h:=ZE h;obtain _|⟨H,l⟩:=l
 .cases h
 replace h:=ZE h;obtain _|⟨G,l⟩:=l
 .cases h
 replace h:=ZE h;obtain _|⟨F,l⟩:=l
 .cases h
 replace h:=ZE h;obtain _|⟨E,l⟩:=l
 .cases h
 replace h:=ZE h;obtain _|⟨D,l⟩:=l
 .cases h
 replace h:=ZE h;obtain _|⟨C,l⟩:=l
 .cases h
 replace h:=ZE h;obtain _|⟨B,l⟩:=l
 .cases h
 replace h:=ZE h;obtain _|⟨A,l⟩:=l
 .cases h
 replace h:=ZE h;obtain _|⟨z,l⟩:=l
 .cases h
 replace h:=ZE h;obtain _|⟨y,l⟩:=l
 .cases h
 replace h:=ZE h;obtain _|⟨x,l⟩:=l
 .cases h
 replace h:=ZE h;obtain _|⟨w,l⟩:=l
 .cases h
 replace h:=ZE h;obtain _|⟨v,l⟩:=l
 .cases h
 replace h:=ZE h;obtain _|⟨u,l⟩:=l
 .cases h
 replace h:=ZE h;obtain _|⟨s,l⟩:=l
 .cases h
 replace h:=ZE h;obtain _|⟨r,l⟩:=l
 .cases h
 replace h:=ZE h;obtain _|⟨q,l⟩:=l
 .cases h
 replace h:=ZE h;obtain _|⟨p,l⟩:=l
 .cases h
 replace h:=ZE h;obtain _|⟨o,l⟩:=l
 .cases h
 replace h:=ZE h;obtain _|⟨n,l⟩:=l
 .cases h
 replace h:=ZE h;obtain _|⟨m,l⟩:=l
 .cases h
 replace h:=ZE h;obtain _|⟨k,l⟩:=l
 .cases h
 replace h:=ZE h;obtain _|⟨j,l⟩:=l
 .cases h
 replace h:=ZE h;obtain _|⟨i,l⟩:=l
 .cases h
 replace h:=ZE h;obtain _|⟨g,l⟩:=l
 .cases h
 replace h:=ZE h;obtain _|⟨f,l⟩:=l
 .cases h
 replace h:=ZE h;obtain _|⟨e,l⟩:=l
 .cases h
 replace h:=ZE h;obtain _|⟨d,l⟩:=l
 .cases h
 replace h:=ZE h;obtain _|⟨c,l⟩:=l
 .cases h
 replace h:=ZE h;obtain _|⟨b,l⟩:=l
 .cases h
 replace h:=ZE h;obtain _|⟨a,l⟩:=l
 .exact⟨_,_,_,_,_,_,_,_,_,_,_,_,_,_,_,_,_,_,_,_,_,_,_,_,_,_,_,_,_,_,_,_,_,_,_,_,_,_,_,_,rfl⟩
 cases h
def jP (Post:Zf->Zb->Prop)(ρ₀:Ren)(n₀ n₀':Nat)(k:Int):Gk:=λS v w=>
 ∃a e f g d,v=.agg #[.int .i64 k,d]/\ρ₀.le a/\(∀b c,a b=some c->ρ₀ b=some c\/(n₀<=b/\n₀'<=c))/\n₀<=e.heap.size/\WR a e w/\VR a f d/\Post (.tuple #[f,g]) e/\∀b c,a b=some c->S c
variable {Post:Zf->Zb->Prop}
variable {k:Int}
variable {S Lk:Nat->Prop}
variable {v:Zf}
variable {w w₁ wl:Zb}
def jP.rely {ρ₀:Ren}{n₀ n₀':Nat}(h:jP Post ρ₀ n₀ n₀' k S v w)(r:D1 S w w₁):jP Post ρ₀ n₀ n₀' k S v w₁:=by
 obtain⟨d,wl,f,g,a,q,p,o,n,m,l,j,e⟩:=h;refine⟨d,wl,f,g,a,q,p,o,n,(m.rely (S:=λc=>∃b,d b=some c) (λc=>Iff.rfl) ⟨λc ⟨b,i⟩=>r.same c (e b c i),r.size,r.os⟩),l,j,e⟩
section
variable {P':Zo}{ρ:Ren}{Wg Ch f l p g s l' p' g' s':Nat}{T₀:Nat->Prop}
def worker (T:Twins P' Zc)(E:Env P' Zc ρ)(Jv:ρ.sp=λ_=>false)(W:Q7 P')(aB:Bh Zc ρ.ok My true Jd=true)
 (hl:ρ l=some l') (hp:ρ p=some p') (hg:ρ g=some g') (hs:ρ s=some s') {w₀:Zb} (hw:WR ρ wl w₀) (e:C_ Post)
 (u:∀t,Calls P' 88 (E6 l p g s) (tp wl t) (gr Post λ_ _=>False))
 (hq:∀(v:Zf) (w:Zb),Post v w->∀(b:Nat) (o:Obj),Quiet o->wl.heap[b]?=some o->w.heap[b]?=some o)
 (X:∀K v2 w,Post (.tuple #[K,v2]) w->v2=ptr p/\∃a n c,K=.slice a n c)
 (R7:∀b c,ρ b=some c->Cw wl b\/∃o,Quiet o/\wl.heap[b]?=some o) (y:∀b c,ρ b=some c->T₀ c) (Az:∀b,T₀ b->b<w₀.heap.size)
 (hk:w₀.cell? p'=some (.int .i64 k)) (hf:w₀.cell? f=some (.chan (some Ch))) (m:T₀ f)
 (N:¬T₀ Wg) (Y:Wg<w₀) (KW:WgLive 162 Wg w₀):
  Be Zc false 162 Wg T₀ (Pair.AtSend Zc 162 Wg Ch (jP Post ρ wl w₀ k)) T₀ (born Zc (call156 Wg l' p' g' s' f)) w₀:=by
 have V:Kept 162 Wg T₀ w₀ T₀ w₀:=⟨λb e=>⟨e,Az b e⟩,D1.refl _ _,N,Y,KW⟩;have hA:Be Zc false 162 Wg T₀ (λS h _=>S=T₀/\h=OU Wg l' p' g' s' f) T₀ (born Zc (call156 Wg l' p' g' s' f)) w₀:=
  Be.G2 (n:=12) (EA (λ_ _ h=>⟨rfl,h⟩) (aA Wg l' p' g' s' f w₀))
 refine(hA.Ar V).bind λS h w Z=>?_;obtain⟨⟨rfl,rfl⟩,i⟩:=Z w (Ah.refl w);clear hA;have hrel:D1 (λc=>∃b,ρ b=some c) w₀ w:=⟨λc ⟨b,e⟩=>i.rely.same c (y b c e),i.rely.size,i.rely.os⟩;have Nx:=hw.rely (λc=>Iff.rfl) hrel;have hR:=ox (Wg:=Wg) (f:=f) (S:=λc=>∃b,ρ b=some c) (n₀':=w₀) T E Jv W aB hl hp hg hs Nx e (λt=>u t) (λv w hp b o z G=>hq v w hp b o z G) i.rely.size (λb c d=>R7 b c d) (λc=>Iff.rfl);have NC:=(Be.of_run (ty:=162) (Wg:=Wg) hR).aeZ (Stop₂:=λI h w=>∃B,I=(λb=>B b\/S b)/\UJ Wg f Post ρ wl w₀ B h w) Az (λc ⟨b,d⟩=>y b c d) i.rely.size (λc u=>.inl u) (λc u=>u) (λB h w _ hx=>⟨B,rfl,hx⟩);have O:(λb=>(∃b',ρ b'=some b)\/S b)=S:=by
  funext c
  apply propext;exact⟨λx=>x.elim (λ⟨b,d⟩=>y b c d) id,.inr⟩
 rw[O]at NC;refine(NC.Ar (w₀:=w₀) i).bind λI h w₁ Z=>?_;obtain⟨⟨B,tj,t',J,GR,K,v2,rfl,ht,L,UK,F,P,j,rG,D',Qu,M⟩,A⟩:=Z w₁ (Ah.refl w₁);obtain⟨rfl,va,C,D,rfl⟩:=X _ _ _ UK;obtain⟨a0,a1,a2,a3,a4,a5,a6,a7,a8,a9,fI,fH,fy,fx,fw,fu,fm,fi,fd,ed,ea,du,dl,ct,co,ck,ci,b9,b8,bV,bU,bv,bi,be,bc,ba,ap,an,am,ai,rfl⟩:=afy t' ht;have e5:a5=ptr f:=L;have e2:a2=ptr p':=by
  have P:VR J (ptr p) a2:=P;cases P with
  | @pointer _ q h=>
   cases q with
   |none=>exact h.elim
   |some q=>
    obtain⟨z,G,h3⟩:=h;obtain⟨qb,qo,qs⟩:=q;have:=j.1 _ _ hp;dsimp only at z G h3;rw[this]at z;cases z;subst G h3
    rfl
 have R:∃H,a6=.slice H C D:=by
  have F:VR J (.slice va C D) a6:=F;cases F with
  |slice n c h=>exact⟨_,rfl⟩
  |void _ _=>exact⟨_,rfl⟩
 obtain⟨H,R⟩:=R;subst e5 e2 R;have U:jP Post ρ wl w₀ k I (.agg #[.int .i64 k,.slice H C D]) w₁:=
  ⟨J,GR,_,_,_,rfl,j,rG,D',Qu,F,UK,λb c d=>by rw[tj];exact .inl ((M c).2 ⟨b,d⟩)⟩
 refine jO (Q:=λw=>jP Post ρ wl w₀ k I (.agg #[.int .i64 k,.slice H C D]) w) (λ_ _ h r=>h.rely r.base) w₁ ⟨?_,?_,(A.sub f m).1,(A.sub p' (y p p' hp)).1,A.live,U⟩ λac h=>h
 .exact(zn (A.rely.same f m)).trans hf
 exact(zn (A.rely.same p' (y p p' hp))).trans hk
end
end Go.Proofs.Fit
namespace Go.Proofs.Fit
open Go Go.Conc Go.FA Go.Pair Go.RowKit
def Wa (i:Nat):Bool:=decide (i<171)&& !([0,1,2,87,88,89,90,92,93,94,95,105,106,107,108,109,110,111,112,113,114,115,116,117,118,119,120,121,122,124,125,126,128,129,130,131,132,133,134,135,136,137,138,139,140,141,142,143,144,145,146,147,148,149,150,151,152,153,154,155,156,157,158,159,160,161,162,163,164,165,166,167,168,169,170].contains i)
def Xh (i:Nat):Bool:=i==65||i==60
def aE (i:Nat):Bool:=[58,59,76,77].contains i
def aF (i:Nat):Bool:=[69,40,52,58,59,76,77,91,84,86,123].contains i
def ND:Pk:= {val:=aE,Nc:=λf=>Wa f&& !Xh f,dir:=λf n=>Wa f&&(if f=65 then n==2 else if f=60 then n==3 else true),low:=Tryz.prog.globals.size}
def okW:Pk:= {val:=aE,Nc:=aF,dir:=λf _=>aF f,low:=Tryz.prog.globals.size}
def Lw (ok:Pk)(f:Option Func):Bool:=match f with
 |none=>false
 |some fn=> !(fn.name== "runtime.NumGoroutine")&&match fn.body with
  |none=>false
  |some c=>(!fn.norace)&&Bh Zc ok BU false c
def oz (f:Option Func):Bool:=match f with
 |none=>false
 |some fn=>fn.body.isSome&& !(fn.name== "runtime.NumGoroutine")
def tw:(Yr 171).all (λf=> !(Wa f&& !Xh f)||Lw ND Tryz.prog.funcs[f]?)=true:=k!
def afD:(Yr 171).all (λf=> !aF f||Lw okW Tryz.prog.funcs[f]?)=true:=k!
def aa9:Bh Zc okW My true Jd=true:=k!
def wK:Tryz.prog.types.all (λi=>i.zero.all (Pt 8))=true:=k!
def wM:(Tryz.prog.info? 0).all (λi=>(i.methods.find? (λm=>m.name== "")).isNone)=true:=k!
structure FR (P':Zo):Prop where
 tables:P'.toTables=Tryz.prog.toTables
 same:∀f,Wa f=true->Xh f=false->P'.funcs[f]?=Tryz.prog.funcs[f]?
 met:∀f,Xh f=true->∃fn,P'.funcs[f]?=some fn/\fn.body.isSome=true/\(fn.name== "runtime.NumGoroutine")=false
 jv:Q7 P'
variable {Wg b Ch f p n:Nat}
def dF (h:Wa f=true):f<171:=by
 unfold Wa at h;rw[ZF]at h;exact of_decide_eq_true h.1
def NF (h:aE f=true):Wa f=true/\Xh f=false/\aF f=true:=by
 have:f=58\/f=59\/f=76\/f=77:=by simpa[aE]using h
 rcases this with rfl|rfl|rfl|rfl<;>decide
def gJ (h:aF f=true):Wa f=true/\Xh f=false:=by
 have:f=69\/f=40\/f=52\/f=58\/f=59\/f=76\/f=77\/f=91\/f=84\/f=86\/f=123:=by simpa[aF]using h
 rcases this with rfl|rfl|rfl|rfl|rfl|rfl|rfl|rfl|rfl|rfl|rfl<;>decide
def oA (a:Xh f=true):∃fn,Tryz.prog.funcs[f]?=some fn/\fn.body.isSome=true/\(fn.name== "runtime.NumGoroutine")=false:=by
 have b:f=65\/f=60:=by simpa[Xh]using a
 have:oz Tryz.prog.funcs[f]?=true:=by
  rcases b with rfl|rfl<;>kernel_rfl
 unfold oz at this;cases e:Tryz.prog.funcs[f]? with
 |none=>rw[e]at this;cases this
 |some fn=>
  rw[e]at this;simp only[ZF,ZcF]at this;exact⟨fn,rfl,this.1,this.2⟩
def Pz {ok:Pk}(a:Lw ok Tryz.prog.funcs[f]?=true):∃fn code,Tryz.prog.funcs[f]?=some fn/\fn.body=some code/\Bh Zc ok BU false code=true/\(fn.name== "runtime.NumGoroutine")=false/\fn.norace=false:=by
 unfold Lw at a;cases e:Tryz.prog.funcs[f]? with
 |none=>rw[e]at a;cases a
 |some fn=>
  rw[e]at a;cases b:fn.body with
  |none=>simp[b]at a
  |some c=>
   simp only[b,ZF,ZcF]at a;exact⟨fn,c,rfl,b,a.2.2,a.1,a.2.1⟩
def aab (h:Wa f=true)(a:Xh f=false):Lw ND Tryz.prog.funcs[f]?=true:=by
 have:=Zdm.1 tw f (List.mem_range.2 (dF h));rw[h,a]at this;simpa using this
def aac (h:aF f=true):Lw okW Tryz.prog.funcs[f]?=true:=by
 have:=Zdm.1 afD f (List.mem_range.2 (dF (gJ h).1));rw[h]at this;simpa using this
def tx (h:ND.dir f n=true):Wa f=true:=by
 have a:(Wa f&&(if f=65 then n==2 else if f=60 then n==3 else true))=true:=h;rw[ZF]at a;exact a.1
def Je:ND.Nc f=true↔Wa f=true/\Xh f=false:=by
 show(Wa f&& !Xh f)=true↔_;rw[ZF,ZcF]
variable {P P':Zo}
def FR.follow (L:FR P'):OB P' Zc ND Xh where
 val f h:=⟨Je.2 ⟨(NF h).1,(NF h).2.1⟩,(NF h).2.1⟩
 dir f n h:=by
  cases e:Xh f with
  |true=>exact .inr rfl
  |false=>exact .inl ⟨Je.2 ⟨tx h,e⟩,rfl⟩
 met f n _ hs:=by
  obtain⟨fn,h1,h2,h3⟩:=L.met f hs;obtain⟨Qt,k1,k2,k3⟩:=oA hs;exact⟨fn,Qt,h1,k1,h2,k2,h3,k3⟩
 has f h hs:=by
  have h':=Je.1 h;obtain⟨fn,code,h1,h2,h3,h4,h5⟩:=Pz (aab h'.1 h'.2);exact⟨fn,code,(L.same f h'.1 h'.2).trans h1,h1,h2,h3,h4,h5⟩
def FR.tz (L:FR P'):OB P' Zc okW (λ_=>false) where
 val f h:=⟨(NF h).2.2,rfl⟩
 dir f n h:=.inl ⟨h,rfl⟩
 met f n _ hs:=by cases hs
 has f h _:=by
  have h':=gJ h;obtain⟨fn,code,h1,h2,h3,h4,h5⟩:=Pz (aac h);exact⟨fn,code,(L.same f h'.1 h'.2).trans h1,h1,h2,h3,h4,h5⟩
def FR.twins (L:FR P'):Twins P' Zc:=ae L.tables wK wM
variable {ρ:Ren}
def FR.alk (L:FR P')(a:ρ.ok=ND)(c:ρ.good=Bh Zc ND BU false)(b:ρ.sp=Xh):Env P' Zc ρ:=
 ⟨by unfold Base;rw[a];rfl,by rw[a];exact c,by rw[a,b];exact L.follow⟩
def FR.afE (L:FR P')(a:ρ.ok=okW)(c:ρ.good=Bh Zc okW BU false)(b:ρ.sp=λ_=>false):Env P' Zc ρ:=
 ⟨by unfold Base;rw[a];rfl,by rw[a];exact c,by rw[a,b];exact L.tz⟩
def Mz:Func:= {Za7 with nfree:=7,body:=some Jd,results:= #[.tmp 6,.tmp 2]}
def CM (P:Zo)(Qg Kj MA Mz:Func):Zo:=
 {P with funcs:=(((P.funcs.setIfInBounds 65 Qg).setIfInBounds 60 Kj).setIfInBounds 87 MA).setIfInBounds 88 Mz}
section
variable {P:Zo}{Qg Kj MA Mz:Func}
def Wb (d:f≠65)(c:f≠60)(b:f≠87)(a:f≠88):(CM P Qg Kj MA Mz).funcs[f]?=P.funcs[f]? :=by
 unfold CM;simp only;rw[Zk (Za0 a),Zk (Za0 b),Zk (Za0 c),Zk (Za0 d)]
def NG (h:65<P.funcs.size):(CM P Qg Kj MA Mz).funcs[65]?=some Qg:=by
 unfold CM;simp only;rw[Zk d!,Zk d!,Zk d!,ZV h]
def L8 (h:60<P.funcs.size):(CM P Qg Kj MA Mz).funcs[60]?=some Kj:=by
 unfold CM;simp only;rw[Zk d!,Zk d!,ZV (by simpa using h)]
def TU (h:87<P.funcs.size):(CM P Qg Kj MA Mz).funcs[87]?=some MA:=by
 unfold CM;simp only;rw[Zk d!,ZV (by simpa using h)]
def L9 (h:88<P.funcs.size):(CM P Qg Kj MA Mz).funcs[88]?=some Mz:=by
 unfold CM;simp only;rw[ZV (by simpa using h)]
def OV:(CM P Qg Kj MA Mz).toTables=P.toTables:=rfl
end
def FT:Tryz.prog.funcs.size=171:=k!
def tA:Wa 87=false:=d!
def tB:Wa 88=false:=d!
def aG {Qg Kj MA:Func}(h91:Qg.body.isSome=true/\(Qg.name== "runtime.NumGoroutine")=false)(afF:Kj.body.isSome=true/\(Kj.name== "runtime.NumGoroutine")=false):
  FR (CM Zc Qg Kj MA Mz) where
 tables:=OV
 same f h hs:=by
  have DX:f≠65/\f≠60:=by
   unfold Xh at hs;simpa using hs
  refine Wb DX.1 DX.2 ?_ ?_
  .rintro rfl;rw[tA]at h;cases h
  rintro rfl;rw[tB]at h;cases h
 met f hs:=by
  have hf:f=65\/f=60:=by simpa[Xh]using hs
  rcases hf with rfl|rfl
  .exact⟨Qg,NG (by rw[FT];decide),h91.1,h91.2⟩
  exact⟨Kj,L8 (by rw[FT];decide),afF.1,afF.2⟩
 jv:=⟨Mz,L9 (by rw[FT];decide),rfl,rfl,rfl,rfl⟩
def MA:Func:=
 {name:= "fitting.all",origin:= "",params:= #[84,34,23],resultTypes:= #[34],nfree:=0,ntmps:=13,results:= #[.tmp 3],
  body:=some (
   (zU 0 #[{dst:=some 3,op:=.assign (.const ()),type:=34,pos:= "",after:= #[],guard:=none}, {dst:=some 4,op:=.call {callee:=.builtin .len,args:= #[.tmp 1],argTypes:= #[34]},type:=3,pos:= "",after:= #[],guard:=none}, {dst:=some 5,op:=.move (.const (.int .i64 0)),type:=3,pos:= "",after:= #[],guard:=none}] false).seq
   ((Code.block 0 (Code.loop
    ((zU 1 #[{dst:=some 6,op:=.binOp .lss 3 (.tmp 5) (.tmp 4) 3,type:=0,pos:= "",after:= #[],guard:=none}] false).seq
    ((Zcs (.tmp 6) .skip (.exit 0)).seq
    ((Code.block 1
     ((zU 2 #[{dst:=some 7,op:=.indexAddr 34 (.tmp 1) (.tmp 5),type:=0,pos:= "",after:= #[],guard:=none}, {dst:=some 8,op:=.load 22 (.tmp 7),type:=22,pos:= "",after:= #[],guard:=none}] false).seq
     ((zU 3 #[{dst:=some 9,op:=.call {callee:=.value (.func 52),args:= #[.tmp 0,.tmp 8,.tmp 2],argTypes:= #[84,22,23]},type:=4,pos:= "",after:= #[],guard:=none}] false).seq
     (Zcs (.tmp 9)
      (zU 4 #[{dst:=some 10,op:=.buildSlice 34 1 #[(0,.tmp 8)],type:=34,pos:= "",after:= #[],guard:=none}, {dst:=some 11,op:=.call {callee:=.builtin .append,args:= #[.tmp 3,.tmp 10],argTypes:= #[34,34]},type:=34,pos:= "",after:= #[],guard:=none}, {dst:=some 3,op:=.assign (.tmp 11),type:=34,pos:= "",after:= #[],guard:=none}] false)
      .skip)))).seq
    (zU 5 #[{dst:=some 12,op:=.binOp .add 3 (.tmp 5) (.const (.int .i64 1)) 3,type:=3,pos:= "",after:= #[],guard:=none}, {dst:=some 5,op:=.move (.tmp 12),type:=3,pos:= "",after:= #[],guard:=none}] false)))))).seq
   .ret)),
  norace:=false,file:= "",endLine:=0,tmpNames:= #[]}
def Kj:Func:=
 {name:= "fitting.alone",origin:= "",params:= #[84,34,23],resultTypes:= #[34],nfree:=0,ntmps:=14,results:= #[.tmp 6],
  body:=some (
   (zU 0 #[{dst:=some 6,op:=.assign (.const ()),type:=34,pos:= "",after:= #[],guard:=none}, {dst:=some 7,op:=.buildSlice 22 1 #[],type:=22,pos:= "",after:= #[],guard:=none}, {dst:=some 8,op:=.call {callee:=.builtin .append,args:= #[(.const ()),.tmp 7],argTypes:= #[22,22]},type:=22,pos:= "",after:= #[],guard:=none}, {dst:=some 9,op:=.call {callee:=.builtin .cap,args:= #[.tmp 8],argTypes:= #[22]},type:=3,pos:= "",after:= #[],guard:=none}, {dst:=some 10,op:=.binOp .eql 3 (.tmp 9) (.const (.int .i64 1)) 3,type:=4,pos:= "",after:= #[],guard:=none}] false).seq
   ((Zcs (.tmp 10) (zU 1 #[{dst:=some 11,op:=.makeFunc (.func 88) #[] #[.tmp 0,.tmp 1,.tmp 2,.tmp 7],type:=1,pos:= "",after:= #[],guard:=none}, {dst:=some 12,op:=.makeInterface 1 (.tmp 11),type:=20,pos:= "",after:= #[],guard:=none}, {dst:=none,op:=.panic (.tmp 12),type:=0,pos:= "",after:= #[],guard:=none}] false) .skip).seq
   ((zU 2 #[{dst:=some 11,op:=.call {callee:=.value (.func 87),args:= #[.tmp 0,.tmp 1,.tmp 2],argTypes:= #[84,34,23]},type:=34,pos:= "",after:= #[],guard:=none}] false).seq
   ((zU 3 #[{dst:=some 12,op:=.call {callee:=.builtin .append,args:= #[(.const ()),.tmp 11],argTypes:= #[34,34]},type:=34,pos:= "",after:= #[],guard:=none}, {dst:=some 6,op:=.assign (.tmp 12),type:=34,pos:= "",after:= #[],guard:=none}] false).seq
   .ret)))),
  norace:=false,file:= "",endLine:=0,tmpNames:= #[]}
def oB (Qg:Func):Zo:=CM Zc Qg Kj MA Mz
def Wc {Qg:Func}(h:Qg.body.isSome=true/\(Qg.name== "runtime.NumGoroutine")=false):FR (oB Qg):=aG h ⟨rfl,d!⟩
def Qg:Func:=
 {name:= "errors.As.alone",origin:= "",params:= #[124,20],resultTypes:= #[4],nfree:=0,ntmps:=14,results:= #[.tmp 4],
  body:=some (
   (zU 0 #[{dst:=some 4,op:=.assign (.const (.bool false)),type:=4,pos:= "",after:= #[],guard:=none}, {dst:=some 7,op:=.buildSlice 22 1 #[],type:=22,pos:= "",after:= #[],guard:=none}, {dst:=some 8,op:=.call {callee:=.builtin .append,args:= #[(.const ()),.tmp 7],argTypes:= #[22,22]},type:=22,pos:= "",after:= #[],guard:=none}, {dst:=some 9,op:=.call {callee:=.builtin .cap,args:= #[.tmp 8],argTypes:= #[22]},type:=3,pos:= "",after:= #[],guard:=none}, {dst:=some 10,op:=.binOp .eql 3 (.tmp 9) (.const (.int .i64 1)) 3,type:=4,pos:= "",after:= #[],guard:=none}] false).seq
   ((Zcs (.tmp 10) (zU 1 #[{dst:=some 11,op:=.makeFunc (.func 88) #[] #[.tmp 0,.tmp 1,.tmp 7],type:=1,pos:= "",after:= #[],guard:=none}, {dst:=some 12,op:=.makeInterface 1 (.tmp 11),type:=20,pos:= "",after:= #[],guard:=none}, {dst:=none,op:=.panic (.tmp 12),type:=0,pos:= "",after:= #[],guard:=none}] false) .skip).seq
   ((zU 2 #[{dst:=some 6,op:=.binOp .eql 124 (.tmp 0) (.const .nilIface) 124,type:=4,pos:= "",after:= #[],guard:=none}] false).seq
   ((Zcs (.tmp 6) .ret .skip).seq
   ((zU 3 #[{dst:=some 13,op:=.typeAssert (.tmp 0) 124 128 false,type:=128,pos:= "",after:= #[],guard:=none}, {dst:=some 5,op:=.typeAssert (.tmp 1) 20 130 false,type:=130,pos:= "",after:= #[],guard:=none}, {dst:=none,op:=.store 128 (.tmp 5) (.tmp 13),type:=0,pos:= "",after:= #[],guard:=none}, {dst:=some 4,op:=.assign (.const (.bool true)),type:=4,pos:= "",after:= #[],guard:=none}] false).seq
   .ret))))),
  norace:=false,file:= "",endLine:=0,tmpNames:= #[]}
def AP:FR (oB Qg):=Wc ⟨rfl,d!⟩
end Go.Proofs.Fit
