/- Part of a proof. -/
import Derived.Test.YtkkjobdfheidkaaGreatDoorQ04
import Derived.Test.YtkkjobdfheidkaaGreatDoorQ05
import Derived.Test.YtkkjobdfheidkaaGreatDoorProg
import Derived.Conc.WgWords
set_option maxRecDepth 100000
set_option maxHeartbeats 6400000
open Array renaming replicate→Yd,getElem?_append_left→zg,getElem?_append_right→Y7,getD_eq_getD_getElem?→YO,getElem?_eq_some_iff→Za,getElem?_setIfInBounds_ne→Zk,getElem?_setIfInBounds_self_of_lt→Z9
open Bool renaming and_eq_true→ZD
open Go renaming Frame→ZA,Value→Zc,undef→Ze,World→Zb,stepG→Z6,callFunc→Zz,TypeId→Zs,Goroutine→Zg,Program→Zp,Event→ZU
open Go.Code renaming region→zH
open Go.Conc renaming stepG_seq→Zn,stepG_region_end→Zf,served→YQ,goes_oper_k→zm,mem_listed→zy
open Go.Conc.Goes renaming stop→ZQ
open Go.Frame renaming enter→Zq
open Go.GStep renaming after→zv
open Go.Proofs.Tryz renaming prog→Zd,f156→ZaY
open Go.Region renaming wanted→zU
open Go.Value renaming slice→Zy
open Go.World renaming cell?_of_block→zo
open List renaming range→ZaB
open Nat renaming le_refl→Zj,lt_of_lt_of_le→Zl
open Nat.succ renaming inj→ZC
open Option renaming getD_some→Zw
namespace Go.Proofs
abbrev Tryz.link:Go.Conc.Lib.WgLink:= {add:=155,done:=157,wait:=158,relMerge:=169,disable:=170,enable:=171,inBubble:=172,associate:=173,fatal:=174,uOr:=175,uAdd:=176,raceRead:=177,uLoad:=178,uStore:=179,disassociate:=180,semrelease:=181,acquire:=182,isAssociated:=183,uCas:=184,raceWrite:=185,semacquire:=186,orU64:=188,addU64:=189,loadU64:=190,storeU64:=191,casU64:=192,tWgP:=235,tUP:=182,tAssoc:=237,tWg:=206,tAU:=203,tU64:=104,tUint:=179,tU32:=204,tPU32:=241,tPAU:=249,tPU64:=251,tNoCopy:=199,tANoCopy:=200,tAlign64:=201}
theorem Tryz.TY:Go.Conc.Lib.WgLib Zd Tryz.link:=
 ⟨Tryz.func155,Tryz.func157,Tryz.func158,Tryz.func169,Tryz.func170,Tryz.func171,Tryz.func172,Tryz.func173,Tryz.func174,Tryz.func175,Tryz.func176,Tryz.func177,Tryz.func178,Tryz.func179,Tryz.func180,Tryz.func181,Tryz.func182,Tryz.func183,Tryz.func184,Tryz.func185,Tryz.func186,Tryz.func188,Tryz.func189,Tryz.func190,Tryz.func191,Tryz.func192,Tryz.underlying235,Tryz.runUnderlying235,Tryz.sizeOf235,Tryz.isAgg235,Tryz.zeroValue235,Tryz.underlying182,Tryz.runUnderlying182,Tryz.sizeOf182,Tryz.isAgg182,Tryz.zeroValue182,Tryz.underlying237,Tryz.runUnderlying237,Tryz.sizeOf237,Tryz.isAgg237,Tryz.zeroValue237,Tryz.underlying206,Tryz.runUnderlying206,Tryz.sizeOf206,Tryz.isAgg206,Tryz.zeroValue206,Tryz.underlying203,Tryz.runUnderlying203,Tryz.sizeOf203,Tryz.isAgg203,Tryz.zeroValue203,Tryz.underlying104,Tryz.runUnderlying104,Tryz.sizeOf104,Tryz.isAgg104,Tryz.zeroValue104,Tryz.underlying179,Tryz.runUnderlying179,Tryz.sizeOf179,Tryz.isAgg179,Tryz.zeroValue179,Tryz.underlying204,Tryz.runUnderlying204,Tryz.sizeOf204,Tryz.isAgg204,Tryz.zeroValue204,Tryz.underlying241,Tryz.runUnderlying241,Tryz.sizeOf241,Tryz.isAgg241,Tryz.zeroValue241,Tryz.underlying249,Tryz.runUnderlying249,Tryz.sizeOf249,Tryz.isAgg249,Tryz.zeroValue249,Tryz.underlying251,Tryz.runUnderlying251,Tryz.sizeOf251,Tryz.isAgg251,Tryz.zeroValue251,Tryz.underlying0,Tryz.runUnderlying0,Tryz.sizeOf0,Tryz.isAgg0,Tryz.zeroValue0,Tryz.underlying3,Tryz.runUnderlying3,Tryz.sizeOf3,Tryz.isAgg3,Tryz.zeroValue3,Tryz.underlying4,Tryz.runUnderlying4,Tryz.sizeOf4,Tryz.isAgg4,Tryz.zeroValue4,Tryz.underlying9,Tryz.runUnderlying9,Tryz.sizeOf9,Tryz.isAgg9,Tryz.zeroValue9,Tryz.underlying20,Tryz.runUnderlying20,Tryz.sizeOf20,Tryz.isAgg20,Tryz.zeroValue20,Tryz.underlying21,Tryz.runUnderlying21,Tryz.sizeOf21,Tryz.isAgg21,Tryz.zeroValue21,(by kernel_rfl),(by kernel_rfl)⟩
end Go.Proofs
namespace Go.Proofs.Fit
open Go Go.Conc Go.BK Go.Pair Go.RowKit Go.Conc.Lib Go.ConcR.Gen Go.ConcN.Gen
open Go.ConcN (WgLive)
open Go.ConcR (DC0)
def lef:Code→Code
 | .seq a _=>a
 |c=>c
def pH:Code→Code
 | .seq _ b=>b
 |c=>c
noncomputable def bot:ZA:= {(default:ZA) with fn:=Tryz.prog.funcs.size,defers:=[],mode:=.panicking [goexitEntry]}
noncomputable def FY:Code:=Tryz.f156.body.getD .skip
noncomputable def IH:Code:=lef (pH (pH FY))
noncomputable def MV:Code:=pH (pH (pH FY))
def S4:ZA:=baseD 156
def ptr (b:Nat):Zc:=.pointer (some ⟨b,0,none⟩)
def Ic (Wg l p g s f:Nat):Array Zc:= #[ptr Wg,ptr l,ptr p,ptr g,ptr s,ptr f]
def call156 (Wg l p g s f:Nat):Deferred:= {target:=.fn (.func 156) (Ic Wg l p g s f),args:= #[]}
def Ek (n:Nat):Array Zc:=Yd n Ze
theorem iC (Wg l p g s f:Nat)(w:Zb):Z6 Zd false (born Zd (call156 Wg l p g s f)) w=
  .go (G (S4.at ⟨Ic Wg l p g s f++Ek 34,[]⟩ [.code FY]) [bot]) w #[]:=by
 simp[born,call156,Ic,Ek,ptr,Z6,unwind,callDeferred,invoke,Zz,Tryz.func156,ZaY,seen,zv,G,Zq,Frame.at,S4,baseD,bot,FY]
theorem Dd {ty:Zs}{Wg:Nat}{S:Nat→Prop}{w w₁:Zb}(h:True)(_:Ah ty Wg S w w₁):True:=h
theorem qX (Wg l p g s f:Nat)(v:Zc):(Ic Wg l p g s f++Ek 34).setIfInBounds 6 v=Ic Wg l p g s f++ #[v]++Ek 33:=by
 apply Array.ext';simp[Ic,Ek,List.replicate]
theorem aj3 (Wg l p g s f:Nat):((Ic Wg l p g s f++Ek 34)[0]?.getD Ze)=ptr Wg:=by
 rw[zg (by simp[Ic])]
 rfl
noncomputable def Oa (Wg l p g s f:Nat):Zg:=G (S4.at ⟨Ic Wg l p g s f++ #[.slice none 0 0]++Ek 33,[dcall 157 #[ptr Wg]]⟩ [.code IH,.code MV]) [bot]
theorem Xn {S:Nat→Prop}(Wg l p g s f:Nat)(w:Zb):
  Goes Zd false (Ah 206 Wg S) DC0 (fun h _=>h=Oa Wg l p g s f) 12 (born Zd (call156 Wg l p g s f)) w:=by
 have hK:True:=trivial;refine Goes.step rfl fun w₁ _=>?_;rw[iC];refine⟨⟨rfl,rfl⟩,?_⟩;simp only[FY,ZaY,Zw]
 u_c Zn Dd hK
 u_reg Dd hK
 u_defer Dd hK
 u_c Zf Dd hK
 u_c Zn Dd hK
 u_reg Dd hK
 u_op Dd hK
 u_c Zf Dd hK
 u_c Zn Dd hK
 refine ZQ fun _ _=>?_;rw[qX,aj3];simp only[Oa,IH,MV,FY,ZaY,Zw,lef,pH]
end Go.Proofs.Fit
namespace Go.Proofs.Fit
open Go Go.Conc Go.BK Go.Pair Go.RowKit
structure Qr (P':Zp):Prop where
 has:∃fn,P'.funcs[156]?=some fn∧fn.body=some IH∧fn.results= #[.tmp 6,.tmp 2]∧fn.norace=false∧fn.ntmps=40
def LY:Nat→Bool:=fun i=>i==0||i==5
noncomputable def KX (Wg f:Nat):Cut:=
 {seg:=true,dead:=LY,tail:=[.code MV],ey:=[dcall 157 #[ptr Wg]],fn:=156,flat:=false,rv:=fun i=>if i=0 then ptr Wg else ptr f,rn:=40,rk:=.deferred}
noncomputable def BX (P':Zp)(Wg f:Nat):Fj:=⟨KX Wg f,[CV P'],[bot],false⟩
theorem eP (P':Zp)(Wg f:Nat):(BX P' Wg f).La:=⟨fun h=>(by cases h),by simp[BX],fun _=>by simp[BX],fun h=>(by cases h)⟩
def EK (l p g s:Nat):Array Zc:= #[Ze,ptr l,ptr p,ptr g,ptr s,Ze,.slice none 0 0]
theorem Qs {ρ:Ren}{b c:Nat}(h:ρ b=some c):VR ρ (ptr b) (ptr c):=.pointer ⟨h,rfl,rfl⟩
section
variable {P':Zp}{ρ:Ren}{Wg f l p g s l' p' g' s':Nat}
theorem mg (hl:ρ l=some l')(hp:ρ p=some p')(hg:ρ g=some g')(hs:ρ s=some s'):
  OY LY ρ (EK l p g s++Ek 33) (Ic Wg l' p' g' s' f++ #[.slice none 0 0]++Ek 33):=by
 refine⟨by simp[EK,Ic,Ek],fun i x y hd hx hy=>?_⟩;by_cases hi:i<7
 ·rw[zg (by simp[EK];omega)]at hx
  rw[zg (by simp[Ic];omega)]at hy;have h7:i=0∨i=1∨i=2∨i=3∨i=4∨i=5∨i=6:=by omega
  rcases h7 with rfl|rfl|rfl|rfl|rfl|rfl|rfl
  ·cases hd
  ·cases hx;cases hy;exact Qs hl
  ·cases hx;cases hy;exact Qs hp
  ·cases hx;cases hy;exact Qs hg
  ·cases hx;cases hy;exact Qs hs
  ·cases hd
  ·cases hx;cases hy;exact .slice 0 0 trivial
 ·rw[Y7 (by simp[EK];omega)]at hx
  rw[Y7 (by simp[Ic];omega)]at hy;simp only[Ek,Array.getElem?_replicate]at hx hy;split at hx
  ·split at hy
   ·cases hx;cases hy;exact VR.undef ρ
   ·cases hy
  ·cases hx
theorem mi (W:Qr P')(Xo:A_ Zd ρ.ok LY true IH=true)(hl:ρ l=some l')(hp:ρ p=some p')(hg:ρ g=some g')(hs:ρ s=some s'):
  qF P' Zd (BX P' Wg f) ρ (AO (Zq P' 156 (EK l p g s) .normal) [CV P']) (Oa Wg l' p' g' s' f):=by
 obtain⟨fn,h1,h2,h3,h4,h5⟩:=W.has;have he:Zq P' 156 (EK l p g s) .normal= {fn:=156,tmps:=EK l p g s++Ek 33,todo:=[.code IH],defers:=[],mode:=.run,kind:=.normal,roundOf:=none}:=by
  unfold Zq;rw[h1];simp[h2,h5,EK,Ek]
 refine⟨_,_,_,_,rfl,rfl,?_⟩;rw[he];refine F6.bot (B:=BX P' Wg f) ⟨rfl,fun h=>(by cases h),⟨DY h1 h4,DY Tryz.func156 rfl⟩,mg hl hp hg hs,⟨[.code IH],rfl,.cons (.code Xo) .nil⟩,⟨[],rfl,.nil⟩,.run,⟨rfl,.inr ⟨rfl,rfl⟩⟩,trivial,fun _=>⟨rfl,fun h=>(by cases h),rfl,rfl⟩,fun h=>(by cases h),fun _=>⟨?_,fun i hi=>?_,rfl⟩⟩
 ·show(Ic Wg l' p' g' s' f++ #[Zy none 0 0]++Ek 33).size=40
  simp[Ic,Ek]
 ·show(Ic Wg l' p' g' s' f++ #[Zy none 0 0]++Ek 33).getD i Ze=if i=0 then ptr Wg else ptr f
  have Df:i=0∨i=5:=by simpa[KX,BX,LY]using hi
  rw[YO,zg (by simp[Ic];omega)];rcases Df with rfl|rfl<;>rfl
end
section
variable {P':Zp}{ρ:Ren}{Wg f l p g s l' p' g' s':Nat}{Lk S:Nat→Prop}{n₀ n₀':Nat}
def Vd (t:Array Zc):Zc:=.tuple #[t.getD 6 Ze,t.getD 2 Ze]
noncomputable def TZ (Wg f:Nat)(Post:Zc→Zb→Prop)(ρ₀:Ren)(n₀ n₀':Nat):(Nat→Prop)→Zg→Zb→Prop:=fun S h w'=>
 ∃t' σ wl v6 v2,h=G (S4.at ⟨t',[dcall 157 #[ptr Wg]]⟩ [.code MV]) [bot]∧t'.size=40∧t'.getD 5 Ze=ptr f∧Post (.tuple #[v6,v2]) wl∧VR σ v6 (t'.getD 6 Ze)∧VR σ v2 (t'.getD 2 Ze)∧
  ρ₀.le σ∧(∀b c,σ b=some c→ρ₀ b=some c∨(n₀≤b∧n₀'≤c))∧n₀≤wl.heap.size∧WR σ wl w'∧∀c,S c↔∃b,σ b=some c
theorem MX:BL≤Tryz.prog.depth:=by decide+kernel
theorem Xp {Post:Zc→Zb→Prop}(σ:Ren)(h:Zg)(w:Zb)(hl:TL (BX P' Wg f) σ h):¬TP P' (BX P' Wg f) Vd Post (fun _ _=>False) h w:=by
 obtain⟨c,r,x,x',h1,h2,_⟩:=hl;cases h1;rintro(⟨_,h4,_⟩|⟨y,_,h4⟩)
 ·rw[h2]at h4
  have:=congrArg List.length h4;simp[AO,BX]at this
 ·exact h4
theorem mr (T:Twins P' Zd)(E:Env P' Zd ρ)(JQ:ρ.sp=fun _=>false)(W:Qr P')(Xo:A_ Zd ρ.ok LY true IH=true)
  (hl:ρ l=some l') (hp:ρ p=some p') (hg:ρ g=some g') (hs:ρ s=some s') {wl w':Zb} (hw:WR ρ wl w') {Post:Zc→Zb→Prop} (hb:C2 Post)
  (hc:∀t,Calls P' 156 (EK l p g s) (tp wl t) (eH Post fun _ _=>False))
  (hq:∀(v:Zc) (w:Zb),Post v w→∀(b:Nat) (o:Obj),Quiet o→wl.heap[b]?=some o→w.heap[b]?=some o)
  (xr:n₀'≤w'.heap.size) (Rz:∀b c,ρ b=some c→Cn wl b∨∃o,Quiet o∧wl.heap[b]?=some o) (hS:∀c,S c↔∃b,ρ b=some c):
  Wa Zd false (fun c=>∃b,ρ b=some c) (TZ Wg f Post ρ wl.heap.size n₀') S (Oa Wg l' p' g' s' f) w':=by
 obtain⟨fn,h1,h2,h3,h4,h5⟩:=W.has;have hG:=mi (Wg:=Wg) (f:=f) W Xo hl hp hg hs;have Xm:Fe P' Zd (BX P' Wg f) (AO (Zq P' 156 (EK l p g s) .normal) [CV P']) wl:=⟨ρ,_,_,E,hG,hw,JQ⟩;have K:C8 P' (BX P' Wg f) true (TP P' (BX P' Wg f) Vd Post fun _ _=>False):=WM rfl hb (fun _ _ _ x=>x);have hM:Cm P' (BX P' Wg f) true (TP P' (BX P' Wg f) Vd Post fun _ _=>False) (AO (Zq P' 156 (EK l p g s) .normal) [CV P']) wl:=
  U0 (P:=Zd) T MX (eP P' Wg f) rfl rfl rfl (fn:=fn) h1 (WO h3) hb (fun _ _ _ x=>x) Xm hc
 have cy:∀(g:Zg) (w:Zb),TP P' (BX P' Wg f) Vd Post (fun _ _=>False) g w→∀(b:Nat) (o:Obj),(Quiet o∧wl.heap[b]?=some o)→w.heap[b]?=some o:=by
  rintro g w (⟨_,_,h⟩|⟨x,_,h⟩) b o ⟨h1,h2⟩
  ·exact hq _ w h b o h1 h2
  ·exact h.elim
 have Az:∀(b:Nat) (o:Obj),(Quiet o∧wl.heap[b]?=some o)→b<wl.heap.size:=fun b o h=>(Za.1 h.2).1;have H:MN P' Zd (BX P' Wg f) (fun b o=>Quiet o∧wl.heap[b]?=some o) ρ wl.heap.size n₀' (fun c=>∃b,ρ b=some c) S ρ (AO (Zq P' 156 (EK l p g s) .normal) [CV P']) wl (Oa Wg l' p' g' s' f) w':=
  ⟨E,Ren.le_refl _,fun _ _ h=>.inl h,⟨Zj _,xr⟩,.inl hG,hw,fun c ⟨b,JO⟩=>⟨b,JO,(Rz b c JO).imp id fun⟨o,h1,h2⟩=>⟨o,⟨h1,h2⟩,h2⟩⟩,hS⟩
 have hR:=Ki (m':=false) T MX (eP P' Wg f) K (D:=fun g w=>Fe P' Zd (BX P' Wg f) g w∨Ha (BX P' Wg f) g∨PZ (BX P' Wg f) g) (fun g w t AE w₁ es h hn hs=>Fe.out T MX (eP P' Wg f) rfl h hn hs)
  (J:=fun b o=>Quiet o∧wl.heap[b]?=some o) (fun b o h=>⟨h.1,Az b o h⟩)
  (fun g w hD hz hM b o h=>LP T MX (eP P' Wg f) K (fun b o h=>h.1) cy hM hD b o h (Zl (Az b o h) hz))
  (fun σ h w _ hl=>Xp σ h w hl) hM (.inl Xm) S ρ _ _ H
 refine hR.imp fun Fz h w₁ hx=>?_;rcases hx with⟨σ,gl,Gy,B3,HH⟩|⟨σ,gl,Gy,t,_,hsr,HH⟩
 ·rcases B3 with⟨ha,ash,T2⟩|⟨y,_,hF⟩
  ·have ha':(BX P' Wg f).K.seg=true∧gl.callers.length=(BX P' Wg f).lcs.length∧gl.frame.mode=.run∧gl.frame.todo=[]:=ha.elim id fun x=>by cases x.1
   rcases HH.goes with eL|FX|hsr
   ·obtain⟨fr,cs,Bd,cs',rfl,rfl,hk⟩:=eL
    obtain⟨e1,e2,hF⟩:=hk.UZ ha'.2.1;obtain⟨k1,k2,k3⟩:=hF.Au rfl;have AL:Bd.mode=.run:=(Ra hF).1 ha'.2.2.1;have eI:Bd.todo=[.code MV]:=by
     obtain⟨k,q1,q2⟩:=hF.todo;have q3:fr.todo=[]:=ha'.2.2.2;rw[q3]at q2;rw[q1,q2.Q7];rfl
    have qY:Bd.defers=[dcall 157 #[ptr Wg]]:=by
     obtain⟨k,q1,q2⟩:=hF.defers;rw[(hF.part rfl).2.2.1]at q2;rw[q1,q2.Q7];rfl
    have J9:Bd.roundOf=none:=by
     have:=hF.round;rw[(hF.part rfl).1]at this;cases e:Bd.roundOf with
     |none=>rfl
     |some x=>rw[e]at this;exact this.elim
    have Hp:Bd.fn=156:=by rw[hF.fn,(hF.part rfl).2.2.2];rfl
    have heq:Bd=S4.at ⟨Bd.tmps,[dcall 157 #[ptr Wg]]⟩ [.code MV]:=by
     obtain⟨a1,a2,a3,a4,a5,a6,a7⟩:=Bd;dsimp only at AL eI qY J9 Hp k3;subst AL eI qY J9 Hp k3
     rfl
    have aj4:AO Bd cs'=G (S4.at ⟨Bd.tmps,[dcall 157 #[ptr Wg]]⟩ [.code MV]) [bot]:=by
     rw[e2, ←heq];rfl
    refine⟨Bd.tmps,σ,Gy,_,_,aj4,k1,?_,T2,hF.tmps.getD 6 rfl,hF.tmps.getD 2 rfl,HH.le,HH.fresh,HH.size.1,HH.world,HH.holds⟩;have:=k2 5 rfl;exact this
   ·cases FX.1
   ·obtain⟨l_,_,_,_,_,_,_,_,Gz,_⟩:=hsr
    rw[HH.le.2.2.2,JQ]at Gz;cases Gz
  ·exact hF.elim
 ·obtain⟨l_,_,_,_,_,_,_,_,Gz,_⟩:=hsr
  rw[HH.le.2.2.2,JQ]at Gz;cases Gz
end
end Go.Proofs.Fit
namespace Go.Proofs.Fit
open Go Go.Conc Go.BK Go.Pair Go.RowKit Go.Conc.Lib Go.ConcR.Gen Go.ConcN.Gen
open Go.ConcN (WgLive)
open Go.ConcR (DC0)
theorem adl:(Tryz.f157.name== "runtime.NumGoroutine")=false:=by kernel_rfl
@[go_sem] theorem adm (k:Int)(a:Option Addr)(n c:Nat)(w:Zb):(Instr.build 209 #[(0,.int .i64 k),(1,.slice a n c)]).run Zd w=.ok (.agg #[.int .i64 k,.slice a n c]) w:=by
 unfold Instr.build;simp[go_sem,Tryz.runUnderlying209,Tryz.zeroValue209]
@[go_sem] theorem abp (k:Int)(a:Option Addr)(n c:Nat)(w:Zb)(es:Array ZU):(Instr.build 209 #[(0,.int .i64 k),(1,.slice a n c)]).events Zd w es=es:=by
 unfold Instr.build;simp[go_sem,Tryz.runUnderlying209,Tryz.zeroValue209]
theorem T3 (b:ZA)(a:Act)(ops:Array Oper)(i:Nat)(rest:List Nat)(k:List Item)(cs:List ZA)(v:Zc):
  YQ (G (b.at a (.inRegion ops (i::rest)::k)) cs) v=G (b.at (a.put ((ops[i]?).bind (·.dst)) v) (.inRegion ops rest::k)) cs:=by
 unfold YQ G;rw[Frame.finish_at]
theorem iD {P:Zp}{ty:Zs}{Wg Ch:Nat}{Pay:FA}{S:Nat→Prop}{b:ZA}{a:Act}{ops:Array Oper}{i:Nat}{rest:List Nat}{k:List Item}{cs:List ZA}{w:Zb}{v z:Zc}{o:Oper}
  (ho:ops[i]?=some o) (hw:zU o (yielded ops a.tmps)=true) (hk:b.kind≠ .early) (hr:(execOp a.eval o).run P w=.ok (.comm #[scase Ch v z] true .send) w) (hl:listed P b.fn a o w= #[]) (hp:Pay S v w)
  (hg:∃m,Goes P false (Ah ty Wg S) DC0 (AtR0 P ty Wg S) m (G (b.at (a.put o.dst Ze) (.inRegion ops rest::k)) cs) w):Pair.AtSend P ty Wg Ch Pay S (G (b.at a (.inRegion ops (i::rest)::k)) cs) w:=by
 refine⟨rfl,_,v,z,(stepG_comm ho hw hk hr).trans (by rw[hl]),hp,?_⟩;rw[T3,ho];exact hg
structure FP (Wg f p Ch:Nat)(k:Int)(S:Nat→Prop)(Q:Zb→Prop)(w:Zb):Prop where
 fb:w.cell? ⟨f,0,none⟩=some (.chan (some Ch))
 pb:w.cell? ⟨p,0,none⟩=some (.int .i64 k)
 sf:S f
 sp:S p
 live:WgLive 206 Wg w
 q:Q w
theorem FP.rely {Wg f p Ch:Nat}{k:Int}{S:Nat→Prop}{Q:Zb→Prop}(hQ:∀w w₁,Q w→Ah 206 Wg S w w₁→Q w₁){w w₁:Zb}(h:FP Wg f p Ch k S Q w)(r:Ah 206 Wg S w w₁):FP Wg f p Ch k S Q w₁:=
 ⟨(zo (r.base.same f h.sf)).trans h.fb,(zo (r.base.same p h.sp)).trans h.pb,h.sf,h.sp,r.live h.live,hQ _ _ h.q r⟩
theorem eQ {S:Nat→Prop}{b:Nat}(h:S b){a:Addr}(ha:a.block=b){s:Bool}:∃a',(⟨.cell a,false,s⟩:ZU).loc=.cell a'∧S a'.block∧(⟨.cell a,false,s⟩:ZU).write=false:=⟨a,rfl,ha▸h,rfl⟩
theorem iE (T:Array Zc):QuitsD Zd 2 0 (G {S4.at ⟨T,[]⟩ []with mode:=.returning} [bot]):=by
 refine QuitsD.ctl (g':=G bot []) rfl (fun w=>?_) ?_
 ·simp[G,Z6,unwind,doReturn,results,Frame.at,S4,baseD,bot,Tryz.func156,ZaY,seen,zv,goexitEntry]
 refine QuitsD.ctl (g':= {G bot []with status:=.finished}) rfl (fun w=>?_) ⟨rfl,rfl⟩;simp[G,Z6,unwind,bot,goexitEntry,Frame.catches]
 rfl
theorem RA {S Lk:Nat→Prop}{w:Zb}{es:Array ZU}(h:∀e∈es,∃a,e.loc=.cell a∧S a.block∧e.write=false):Lb S Lk w w es:=
 ⟨Zj _,fun _ _ _=>rfl,rfl,rfl,rfl,fun e hm=>by
  obtain⟨a,h1,h2,h3⟩:=h e hm;rw[Hc];unfold U1;rw[h1];exact⟨h2,fun hw=>by rw[h3]at hw;cases hw⟩⟩
theorem Es {P:Zp}{m:Bool}{R:Zb→Zb→Prop}{D:Zb→Zb→Array ZU→Prop}{St uA:Zg→Zb→Prop}(hi:∀g w,St g w→uA g w):∀ {n:Nat} {g:Zg} {w:Zb},Goes P m R D St n g w→Goes P m R D uA n g w:=by
 intro n
 induction n with
 |zero=>intro g w h w₁ hr;exact hi _ _ (h w₁ hr)
 |succ n ih=>
  intro g w h;rcases h with h|⟨hs,h⟩
  ·exact .inl fun w₁ hr=>hi _ _ (h w₁ hr)
  ·refine .inr ⟨hs,fun w₁ hr=>?_⟩
   have:=h w₁ hr;cases hx:Z6 P m g w₁ with
   |go g' w' es=>rw[hx,goes_go]at this;rw[goes_go];exact⟨this.1,ih this.2⟩
   |_=>rw[hx]at this;exact this.elim
section
variable {P:Zp}{m:Bool}{ty:Zs}{Wg:Nat}{Lk S:Nat→Prop}{Stop:B0}{g:Zg}{w:Zb}
theorem A7.qZ {n:Nat}(h:Goes P m (Ah ty Wg S) DC0 (fun g w=>A7 P m ty Wg Lk Stop S g w) n g w):A7 P m ty Wg Lk Stop S g w:=by
 have h1:A7 P m ty Wg Lk (fun S' g w=>S'=S∧A7 P m ty Wg Lk Stop S' g w) S g w:=A7.GM (Es (fun _ _ h=>⟨rfl,h⟩) h);refine h1.bind fun S' g w B3=>?_;exact(B3 w (Ah.refl w)).2
theorem A7.Qt (hs:g.status=.running)
  (h:∀w₂,Ah ty Wg S w w₂→(Z6 P m g w₂).goes fun AE w₁ es=>Lb S Lk w₂ w₁ es∧A7 P m ty Wg Lk Stop (Hr S w₂ w₁) AE w₁):A7 P m ty Wg Lk Stop S g w:=by
 refine A7.WS hs fun w₂ hr=>?_;have:=h w₂ hr;cases hx:Z6 P m g w₂ with
 |go AE w₁ es=>
  rw[hx,goes_go]at this;exact⟨_,_,_,rfl,this⟩
 |_=>rw[hx]at this;exact this.elim
end
theorem iF {Lk:Nat→Prop}{Wg f p Ch:Nat}{k:Int}{S:Nat→Prop}{Pay:FA}{va:Option Addr}{vn vc:Nat}{a0 a1 a3 a4 a7 a8 a9 a10 a11 a12 a13 a14 a15 a16 a17 a18 a19 a20 a21 a22 a23 a24 a25 a26 a27 a28 a29 a30 a31 a32 a33 a34 a35 a36 a37 a38 a39:Zc}{Q:Zb→Prop}(hQ:∀w w₁,Q w→Ah 206 Wg S w w₁→Q w₁)(w:Zb)(hF:FP Wg f p Ch k S Q w)
  (aj5:∀w₂,Q w₂→Pay S (.agg #[.int .i64 k,.slice va vn vc]) w₂):
  A7 Zd false 206 Wg Lk (AtSend Zd 206 Wg Ch Pay) S (G (S4.at ⟨#[a0,a1,ptr p,a3,a4,ptr f,(.slice va vn vc),a7,a8,a9,a10,a11,a12,a13,a14,a15,a16,a17,a18,a19,a20,a21,a22,a23,a24,a25,a26,a27,a28,a29,a30,a31,a32,a33,a34,a35,a36,a37,a38,a39],[dcall 157 #[ptr Wg]]⟩ [.code MV]) [bot]) w:=by
 simp only[MV,FY,ZaY,Zw,pH,ptr];refine A7.qZ (n:=2) ?_
 u_reg (FP.rely hQ) hF
 refine ZQ fun w₁ BJ=>?_;replace hF:=FP.rely hQ hF BJ;clear BJ;refine A7.Qt rfl fun w₂ Ce=>?_;replace hF:=FP.rely hQ hF Ce;clear Ce;have hx:=hF.fb;refine zm rfl rfl (by decide) (fun K hK=>?_)
 go_simp
 refine hK _ _ ⟨RA fun e he=>?_,?_⟩
 ·have hm:=zy he
  simp[go_sem, *]at hm;subst hm;exact eQ hF.sf rfl
 clear hK K hx;rw[Hc];refine A7.Qt rfl fun DL Fb=>?_;replace hF:=FP.rely hQ hF Fb;clear Fb;have hx:=hF.pb;refine zm rfl rfl (by decide) (fun K hK=>?_)
 go_simp
 refine hK _ _ ⟨RA fun e he=>?_,?_⟩
 ·have hm:=zy he
  simp[go_sem, *]at hm;subst hm;exact eQ hF.sp rfl
 clear hK K hx;rw[Hc];refine A7.GM (n:=20) ?_
 u_op (FP.rely hQ) hF
 u_op (FP.rely hQ) hF
 refine ZQ fun w₁ BJ=>?_;replace hF:=FP.rely hQ hF BJ;clear BJ;have QO:∀(a:Act) (o:Oper) (ch v:Operand),o.op=.send ch v→a.eval ch=.chan (some Ch)→listed Zd S4.fn a o w₁= #[]:=by
  intro a o ch v ho lT;unfold listed execOp;simp[go_sem,ho,seen_none]
 refine iD (v:=.agg #[.int .i64 k,.slice va vn vc]) (z:=.tuple #[]) rfl rfl (by k_ne) (by simp[execOp,scase,Act.eval]) (QO _ _ _ _ rfl rfl) (aj5 _ hF.q) ⟨46,?_⟩;have hK:=hF.live;clear hF
 walk_nrm
 u_c Zf Af hK
 u_c stepG_end Af hK
 g_unwB Af hK Tryz.func157 adl Tryz.f157
 have hA:= @adi Tryz.link Zd Tryz.TY Wg S;simp only[body_done,doneFn,Zw]at hA;exact hA rfl (iE _) _ hK
end Go.Proofs.Fit
namespace Go.Proofs.Fit
open Go Go.Conc Go.BK Go.Pair Go.RowKit
open Go.ConcN (WgLive)
theorem adR (t:Array Zc)(h:t.size=40):∃a0 a1 a2 a3 a4 a5 a6 a7 a8 a9 a10 a11 a12 a13 a14 a15 a16 a17 a18 a19 a20 a21 a22 a23 a24 a25 a26 a27 a28 a29 a30 a31 a32 a33 a34 a35 a36 a37 a38 a39,t= #[a0,a1,a2,a3,a4,a5,a6,a7,a8,a9,a10,a11,a12,a13,a14,a15,a16,a17,a18,a19,a20,a21,a22,a23,a24,a25,a26,a27,a28,a29,a30,a31,a32,a33,a34,a35,a36,a37,a38,a39]:=by
 obtain⟨l⟩:=t;replace h:l.length=40:=h;obtain _|⟨a0,l⟩:=l
 ·cases h
 replace h:=ZC h;obtain _|⟨a1,l⟩:=l
 ·cases h
 replace h:=ZC h;obtain _|⟨a2,l⟩:=l
 ·cases h
 replace h:=ZC h;obtain _|⟨a3,l⟩:=l
 ·cases h
 replace h:=ZC h;obtain _|⟨a4,l⟩:=l
 ·cases h
 replace h:=ZC h;obtain _|⟨a5,l⟩:=l
 ·cases h
 replace h:=ZC h;obtain _|⟨a6,l⟩:=l
 ·cases h
 replace h:=ZC h;obtain _|⟨a7,l⟩:=l
 ·cases h
 replace h:=ZC h;obtain _|⟨a8,l⟩:=l
 ·cases h
 replace h:=ZC h;obtain _|⟨a9,l⟩:=l
 ·cases h
 replace h:=ZC h;obtain _|⟨a10,l⟩:=l
 ·cases h
 replace h:=ZC h;obtain _|⟨a11,l⟩:=l
 ·cases h
 replace h:=ZC h;obtain _|⟨a12,l⟩:=l
 ·cases h
 replace h:=ZC h;obtain _|⟨a13,l⟩:=l
 ·cases h
 replace h:=ZC h;obtain _|⟨a14,l⟩:=l
 ·cases h
 replace h:=ZC h;obtain _|⟨a15,l⟩:=l
 ·cases h
 replace h:=ZC h;obtain _|⟨a16,l⟩:=l
 ·cases h
 replace h:=ZC h;obtain _|⟨a17,l⟩:=l
 ·cases h
 replace h:=ZC h;obtain _|⟨a18,l⟩:=l
 ·cases h
 replace h:=ZC h;obtain _|⟨a19,l⟩:=l
 ·cases h
 replace h:=ZC h;obtain _|⟨a20,l⟩:=l
 ·cases h
 replace h:=ZC h;obtain _|⟨a21,l⟩:=l
 ·cases h
 replace h:=ZC h;obtain _|⟨a22,l⟩:=l
 ·cases h
 replace h:=ZC h;obtain _|⟨a23,l⟩:=l
 ·cases h
 replace h:=ZC h;obtain _|⟨a24,l⟩:=l
 ·cases h
 replace h:=ZC h;obtain _|⟨a25,l⟩:=l
 ·cases h
 replace h:=ZC h;obtain _|⟨a26,l⟩:=l
 ·cases h
 replace h:=ZC h;obtain _|⟨a27,l⟩:=l
 ·cases h
 replace h:=ZC h;obtain _|⟨a28,l⟩:=l
 ·cases h
 replace h:=ZC h;obtain _|⟨a29,l⟩:=l
 ·cases h
 replace h:=ZC h;obtain _|⟨a30,l⟩:=l
 ·cases h
 replace h:=ZC h;obtain _|⟨a31,l⟩:=l
 ·cases h
 replace h:=ZC h;obtain _|⟨a32,l⟩:=l
 ·cases h
 replace h:=ZC h;obtain _|⟨a33,l⟩:=l
 ·cases h
 replace h:=ZC h;obtain _|⟨a34,l⟩:=l
 ·cases h
 replace h:=ZC h;obtain _|⟨a35,l⟩:=l
 ·cases h
 replace h:=ZC h;obtain _|⟨a36,l⟩:=l
 ·cases h
 replace h:=ZC h;obtain _|⟨a37,l⟩:=l
 ·cases h
 replace h:=ZC h;obtain _|⟨a38,l⟩:=l
 ·cases h
 replace h:=ZC h;obtain _|⟨a39,l⟩:=l
 ·cases h
 replace h:=ZC h;obtain _|⟨a,l⟩:=l
 ·exact⟨_,_,_,_,_,_,_,_,_,_,_,_,_,_,_,_,_,_,_,_,_,_,_,_,_,_,_,_,_,_,_,_,_,_,_,_,_,_,_,_,rfl⟩
 ·cases h
def iG (Post:Zc→Zb→Prop)(ρ₀:Ren)(n₀ n₀':Nat)(k:Int):FA:=fun S v w=>
 ∃σ wl v6 v2 v6',v=.agg #[.int .i64 k,v6']∧ρ₀.le σ∧(∀b c,σ b=some c→ρ₀ b=some c∨(n₀≤b∧n₀'≤c))∧n₀≤wl.heap.size∧WR σ wl w∧VR σ v6 v6'∧Post (.tuple #[v6,v2]) wl∧∀b c,σ b=some c→S c
theorem iG.rely {Post:Zc→Zb→Prop}{ρ₀:Ren}{n₀ n₀':Nat}{k:Int}{S:Nat→Prop}{v:Zc}{w w₁:Zb}(h:iG Post ρ₀ n₀ n₀' k S v w)(r:DM S w w₁):iG Post ρ₀ n₀ n₀' k S v w₁:=by
 obtain⟨σ,wl,v6,v2,v6',h1,h2,h3,h4,h5,h6,h7,h8⟩:=h;refine⟨σ,wl,v6,v2,v6',h1,h2,h3,h4,(h5.rely (S:=fun c=>∃b,σ b=some c) (fun c=>Iff.rfl) ⟨fun c ⟨b,hb⟩=>r.same c (h8 b c hb),r.size,r.os⟩),h6,h7,h8⟩
section
variable {P':Zp}{ρ:Ren}{Wg Ch f l p g s l' p' g' s':Nat}{T₀:Nat→Prop}
theorem worker (T:Twins P' Zd)(E:Env P' Zd ρ)(JQ:ρ.sp=fun _=>false)(W:Qr P')(Xo:A_ Zd ρ.ok LY true IH=true)
  (hl:ρ l=some l') (hp:ρ p=some p') (hg:ρ g=some g') (hs:ρ s=some s') {wl w₀:Zb} (hw:WR ρ wl w₀) {Post:Zc→Zb→Prop} (hb:C2 Post)
  (hc:∀t,Calls P' 156 (EK l p g s) (tp wl t) (eH Post fun _ _=>False))
  (hq:∀(v:Zc) (w:Zb),Post v w→∀(b:Nat) (o:Obj),Quiet o→wl.heap[b]?=some o→w.heap[b]?=some o)
  (adT:∀v6 v2 w,Post (.tuple #[v6,v2]) w→v2=ptr p∧∃a n c,v6=.slice a n c)
  (Rz:∀b c,ρ b=some c→Cn wl b∨∃o,Quiet o∧wl.heap[b]?=some o) (hT:∀b c,ρ b=some c→T₀ c) (Az:∀b,T₀ b→b<w₀.heap.size)
  {k:Int} (hk:w₀.cell? ⟨p',0,none⟩=some (.int .i64 k)) (hf:w₀.cell? ⟨f,0,none⟩=some (.chan (some Ch))) (hfT:T₀ f)
  (hWg:¬T₀ Wg) (xu:Wg<w₀.heap.size) (Kq:WgLive 206 Wg w₀):
  A7 Zd false 206 Wg T₀ (Pair.AtSend Zd 206 Wg Ch (iG Post ρ wl.heap.size w₀.heap.size k)) T₀ (born Zd (call156 Wg l' p' g' s' f)) w₀:=by
 have adU:Kept 206 Wg T₀ w₀ T₀ w₀:=⟨fun b hb=>⟨hb,Az b hb⟩,DM.refl _ _,hWg,xu,Kq⟩;have hA:A7 Zd false 206 Wg T₀ (fun S h _=>S=T₀∧h=Oa Wg l' p' g' s' f) T₀ (born Zd (call156 Wg l' p' g' s' f)) w₀:=
  A7.GM (n:=12) (Es (fun _ _ h=>⟨rfl,h⟩) (Xn Wg l' p' g' s' f w₀))
 refine(hA.Au adU).bind fun S h w B3=>?_;obtain⟨⟨rfl,rfl⟩,hK⟩:=B3 w (Ah.refl w);clear hA;have hrel:DM (fun c=>∃b,ρ b=some c) w₀ w:=⟨fun c ⟨b,hb⟩=>hK.rely.same c (hT b c hb),hK.rely.size,hK.rely.os⟩;have MT:=hw.rely (fun c=>Iff.rfl) hrel;have hR:=mr (Wg:=Wg) (f:=f) (S:=fun c=>∃b,ρ b=some c) (n₀':=w₀.heap.size) T E JQ W Xo hl hp hg hs MT hb (fun t=>hc t) (fun v w hp b o h1 h2=>hq v w hp b o h1 h2) hK.rely.size (fun b c JO=>Rz b c JO) (fun c=>Iff.rfl);have MY:=(A7.of_run (ty:=206) (Wg:=Wg) hR).adg (Stop₂:=fun S' h w=>∃Fz,S'=(fun b=>Fz b∨S b)∧TZ Wg f Post ρ wl.heap.size w₀.heap.size Fz h w) Az (fun c ⟨b,JO⟩=>hT b c JO) hK.rely.size (fun c hc=>.inl hc) (fun c hc=>hc) (fun Fz h w _ hx=>⟨Fz,rfl,hx⟩);have hSS:(fun b=>(∃b',ρ b'=some b)∨S b)=S:=by
  funext c
  apply propext;exact⟨fun x=>x.elim (fun⟨b,JO⟩=>hT b c JO) id,.inr⟩
 rw[hSS]at MY;refine(MY.Au (w₀:=w₀) hK).bind fun S' h w₁ B3=>?_;obtain⟨⟨Fz,qS,t',σ,Gy,v6,v2,rfl,ht,ht5,T2,mA,xv,hle,px,D1,Qk,hho⟩,Xq⟩:=B3 w₁ (Ah.refl w₁);obtain⟨rfl,va,vn,vc,rfl⟩:=adT _ _ _ T2;obtain⟨a0,a1,a2,a3,a4,a5,a6,a7,a8,a9,a10,a11,a12,a13,a14,a15,a16,a17,a18,a19,a20,a21,a22,a23,a24,a25,a26,a27,a28,a29,a30,a31,a32,a33,a34,a35,a36,a37,a38,a39,rfl⟩:=adR t' ht;have e5:a5=ptr f:=ht5;have e2:a2=ptr p':=by
  have xv:VR σ (ptr p) a2:=xv;cases xv with
  | @pointer _ q h=>
   cases q with
   |none=>exact h.elim
   |some q=>
    obtain⟨h1,h2,h3⟩:=h;obtain⟨qb,qo,qs⟩:=q;have:=hle.1 _ _ hp;dsimp only at h1 h2 h3;rw[this]at h1;cases h1;subst h2 h3
    rfl
 have e6:∃cz,a6=.slice cz vn vc:=by
  have mA:VR σ (.slice va vn vc) a6:=mA;cases mA with
  |slice n c h=>exact⟨_,rfl⟩
 obtain⟨cz,e6⟩:=e6;subst e5 e2 e6;have adV:iG Post ρ wl.heap.size w₀.heap.size k S' (.agg #[.int .i64 k,.slice cz vn vc]) w₁:=
  ⟨σ,Gy,_,_,_,rfl,hle,px,D1,Qk,mA,T2,fun b c JO=>by rw[qS];exact .inl ((hho c).2 ⟨b,JO⟩)⟩
 refine iF (Q:=fun w=>iG Post ρ wl.heap.size w₀.heap.size k S' (.agg #[.int .i64 k,.slice cz vn vc]) w) (fun _ _ h r=>h.rely r.base) w₁ ⟨?_,?_,(Xq.sub f hfT).1,(Xq.sub p' (hT p p' hp)).1,Xq.live,adV⟩ fun w₂ h=>h
 ·exact(zo (Xq.rely.same f hfT)).trans hf
 ·exact(zo (Xq.rely.same p' (hT p p' hp))).trans hk
end
end Go.Proofs.Fit
namespace Go.Proofs.Fit
open Go Go.Conc Go.BK Go.Pair Go.RowKit
def Ve (i:Nat):Bool:=decide (i<194)&& !([0,1,2,146,147,148,149,155,156,157,158,163,164,165,169,170,171,172,173,174,175,176,177,178,179,180,181,182,183,184,185,186,188,189,190,191,192,193].contains i)
def Wd (i:Nat):Bool:=i==91||i==104
def Xr (i:Nat):Bool:=[136,137,153,154].contains i
def Xt (i:Nat):Bool:=[106,113,126,136,137,153,154,159,161,162,187].contains i
noncomputable def MZ:OL:= {val:=Xr,Mz:=fun f=>Ve f&& !Wd f,dir:=fun f n=>Ve f&&(if f=91 then n==2 else if f=104 then n==3 else true),low:=Tryz.prog.globals.size}
noncomputable def okW:OL:= {val:=Xr,Mz:=Xt,dir:=fun f _=>Xt f,low:=Tryz.prog.globals.size}
noncomputable def KW (ok:OL)(f:Option Func):Bool:=match f with
 |none=>false
 |some fn=> !(fn.name== "runtime.NumGoroutine")&&match fn.body with
  |none=>false
  |some c=>(!fn.norace)&&A_ Zd ok BO false c
noncomputable def mB (f:Option Func):Bool:=match f with
 |none=>false
 |some fn=>fn.body.isSome&& !(fn.name== "runtime.NumGoroutine")
theorem q9:(ZaB 194).all (fun f=> !(Ve f&& !Wd f)||KW MZ Tryz.prog.funcs[f]?)=true:=by kernel_rfl
theorem adW:(ZaB 194).all (fun f=> !Xt f||KW okW Tryz.prog.funcs[f]?)=true:=by kernel_rfl
theorem xw:A_ Zd okW LY true IH=true:=by kernel_rfl
theorem uB:Tryz.prog.types.all (fun i=>i.zero.all (OX 8))=true:=by kernel_rfl
theorem uC:(Tryz.prog.info? 0).all (fun i=>(i.methods.find? (fun m=>m.name== "")).isNone)=true:=by kernel_rfl
structure FE (P':Zp):Prop where
 tables:P'.toTables=Tryz.prog.toTables
 same:∀f,Ve f=true→Wd f=false→P'.funcs[f]?=Tryz.prog.funcs[f]?
 met:∀f,Wd f=true→∃fn,P'.funcs[f]?=some fn∧fn.body.isSome=true∧(fn.name== "runtime.NumGoroutine")=false
 ib:Qr P'
theorem cA {f:Nat}(h:Ve f=true):f<194:=by
 unfold Ve at h;rw[ZD]at h;exact of_decide_eq_true h.1
theorem M0 {f:Nat}(h:Xr f=true):Ve f=true∧Wd f=false∧Xt f=true:=by
 have:f=136∨f=137∨f=153∨f=154:=by simpa[Xr]using h
 rcases this with rfl|rfl|rfl|rfl<;>decide
theorem eR {f:Nat}(h:Xt f=true):Ve f=true∧Wd f=false:=by
 have:f=106∨f=113∨f=126∨f=136∨f=137∨f=153∨f=154∨f=159∨f=161∨f=162∨f=187:=by simpa[Xt]using h
 rcases this with rfl|rfl|rfl|rfl|rfl|rfl|rfl|rfl|rfl|rfl|rfl<;>decide
theorem mC {f:Nat}(hs:Wd f=true):∃fn,Tryz.prog.funcs[f]?=some fn∧fn.body.isSome=true∧(fn.name== "runtime.NumGoroutine")=false:=by
 have hf:f=91∨f=104:=by simpa[Wd]using hs
 have:mB Tryz.prog.funcs[f]?=true:=by
  rcases hf with rfl|rfl<;>kernel_rfl
 unfold mB at this;cases e:Tryz.prog.funcs[f]? with
 |none=>rw[e]at this;cases this
 |some fn=>
  rw[e]at this;simp only[ZD,Bool.not_eq_true']at this;exact⟨fn,rfl,this.1,this.2⟩
theorem Pq {ok:OL}{f:Nat}(hc:KW ok Tryz.prog.funcs[f]?=true):∃fn code,Tryz.prog.funcs[f]?=some fn∧fn.body=some code∧A_ Zd ok BO false code=true∧(fn.name== "runtime.NumGoroutine")=false∧fn.norace=false:=by
 unfold KW at hc;cases e:Tryz.prog.funcs[f]? with
 |none=>rw[e]at hc;cases hc
 |some fn=>
  rw[e]at hc;cases eb:fn.body with
  |none=>simp[eb]at hc
  |some c=>
   simp only[eb,ZD,Bool.not_eq_true']at hc;exact⟨fn,c,rfl,eb,hc.2.2,hc.1,hc.2.1⟩
theorem xx {f:Nat}(h:Ve f=true)(hs:Wd f=false):KW MZ Tryz.prog.funcs[f]?=true:=by
 have:=List.all_eq_true.1 q9 f (List.mem_range.2 (cA h));rw[h,hs]at this;simpa using this
theorem xy {f:Nat}(h:Xt f=true):KW okW Tryz.prog.funcs[f]?=true:=by
 have:=List.all_eq_true.1 adW f (List.mem_range.2 (cA (eR h).1));rw[h]at this;simpa using this
theorem q_ {f n:Nat}(h:MZ.dir f n=true):Ve f=true:=by
 have h':(Ve f&&(if f=91 then n==2 else if f=104 then n==3 else true))=true:=h;rw[ZD]at h';exact h'.1
theorem II {f:Nat}:MZ.Mz f=true↔Ve f=true∧Wd f=false:=by
 show(Ve f&& !Wd f)=true↔_;rw[ZD,Bool.not_eq_true']
theorem FE.follow {P':Zp}(L:FE P'):NK P' Zd MZ Wd where
 val f h:=⟨II.2 ⟨(M0 h).1,(M0 h).2.1⟩,(M0 h).2.1⟩
 dir f n h:=by
  cases e:Wd f with
  |true=>exact .inr rfl
  |false=>exact .inl ⟨II.2 ⟨q_ h,e⟩,rfl⟩
 met f n _ hs:=by
  obtain⟨fn,h1,h2,h3⟩:=L.met f hs;obtain⟨Qj,k1,k2,k3⟩:=mC hs;exact⟨fn,Qj,h1,k1,h2,k2,h3,k3⟩
 has f h hs:=by
  have h':=II.1 h;obtain⟨fn,code,h1,h2,h3,h4,h5⟩:=Pq (xx h'.1 h'.2);exact⟨fn,code,(L.same f h'.1 h'.2).trans h1,h1,h2,h3,h4,h5⟩
theorem FE.rh {P':Zp}(L:FE P'):NK P' Zd okW (fun _=>false) where
 val f h:=⟨(M0 h).2.2,rfl⟩
 dir f n h:=.inl ⟨h,rfl⟩
 met f n _ hs:=by cases hs
 has f h _:=by
  have h':=eR h;obtain⟨fn,code,h1,h2,h3,h4,h5⟩:=Pq (xy h);exact⟨fn,code,(L.same f h'.1 h'.2).trans h1,h1,h2,h3,h4,h5⟩
theorem FE.twins {P':Zp}(L:FE P'):Twins P' Zd:=Xc L.tables uB uC
theorem FE.aj6 {P':Zp}(L:FE P'){ρ:Ren}(h1:ρ.ok=MZ)(h2:ρ.good=A_ Zd MZ BO false)(h3:ρ.sp=Wd):Env P' Zd ρ:=
 ⟨by unfold Base;rw[h1];rfl,by rw[h1];exact h2,by rw[h1,h3];exact L.follow⟩
theorem FE.adX {P':Zp}(L:FE P'){ρ:Ren}(h1:ρ.ok=okW)(h2:ρ.good=A_ Zd okW BO false)(h3:ρ.sp=fun _=>false):Env P' Zd ρ:=
 ⟨by unfold Base;rw[h1];rfl,by rw[h1];exact h2,by rw[h1,h3];exact L.rh⟩
noncomputable def LZ:Func:= {ZaY with nfree:=7,body:=some IH,results:= #[.tmp 6,.tmp 2]}
def CE (P:Zp)(P_ JV L0 LZ:Func):Zp:=
 {P with funcs:=(((P.funcs.setIfInBounds 91 P_).setIfInBounds 104 JV).setIfInBounds 155 L0).setIfInBounds 156 LZ}
section
variable {P:Zp}{P_ JV L0 LZ:Func}
theorem Vf {f:Nat}(h1:f≠91)(h2:f≠104)(h3:f≠155)(h4:f≠156):(CE P P_ JV L0 LZ).funcs[f]?=P.funcs[f]? :=by
 unfold CE;simp only;rw[Zk (Ne.symm h4),Zk (Ne.symm h3),Zk (Ne.symm h2),Zk (Ne.symm h1)]
theorem M1 (h:91<P.funcs.size):(CE P P_ JV L0 LZ).funcs[91]?=some P_:=by
 unfold CE;simp only;rw[Zk (by decide),Zk (by decide),Zk (by decide),Z9 h]
theorem Lr (h:104<P.funcs.size):(CE P P_ JV L0 LZ).funcs[104]?=some JV:=by
 unfold CE;simp only;rw[Zk (by decide),Zk (by decide),Z9 (by simpa using h)]
theorem S5 (h:155<P.funcs.size):(CE P P_ JV L0 LZ).funcs[155]?=some L0:=by
 unfold CE;simp only;rw[Zk (by decide),Z9 (by simpa using h)]
theorem Ls (h:156<P.funcs.size):(CE P P_ JV L0 LZ).funcs[156]?=some LZ:=by
 unfold CE;simp only;rw[Z9 (by simpa using h)]
theorem Ob:(CE P P_ JV L0 LZ).toTables=P.toTables:=rfl
end
theorem FF:Tryz.prog.funcs.size=231:=by kernel_rfl
theorem ri:Ve 155=false:=by decide
theorem rj:Ve 156=false:=by decide
theorem Xu {P_ JV L0:Func}(h91:P_.body.isSome=true∧(P_.name== "runtime.NumGoroutine")=false)(adY:JV.body.isSome=true∧(JV.name== "runtime.NumGoroutine")=false):
  FE (CE Zd P_ JV L0 LZ) where
 tables:=Ob
 same f h hs:=by
  have DJ:f≠91∧f≠104:=by
   unfold Wd at hs;simpa using hs
  refine Vf DJ.1 DJ.2 ?_ ?_
  ·rintro rfl;rw[ri]at h;cases h
  ·rintro rfl;rw[rj]at h;cases h
 met f hs:=by
  have hf:f=91∨f=104:=by simpa[Wd]using hs
  rcases hf with rfl|rfl
  ·exact⟨P_,M1 (by rw[FF];decide),h91.1,h91.2⟩
  ·exact⟨JV,Lr (by rw[FF];decide),adY.1,adY.2⟩
 ib:=⟨LZ,Ls (by rw[FF];decide),rfl,rfl,rfl,rfl⟩
def L0:Func:=
 {name:= "fitting.all",origin:= "",params:= #[112,27,23],resultTypes:= #[27],nfree:=0,ntmps:=13,results:= #[.tmp 3],
  body:=some (
   (zH 0 #[{dst:=some 3,op:=.assign (.const (.slice none 0 0)),type:=27,pos:= "",after:= #[],guard:=none}, {dst:=some 4,op:=.call {callee:=.builtin .len,args:= #[.tmp 1],argTypes:= #[27]},type:=3,pos:= "",after:= #[],guard:=none}, {dst:=some 5,op:=.move (.const (.int .i64 0)),type:=3,pos:= "",after:= #[],guard:=none}] false).seq
   ((Code.block 0 (Code.loop
    ((zH 1 #[{dst:=some 6,op:=.binOp .lss 3 (.tmp 5) (.tmp 4) 3,type:=0,pos:= "",after:= #[],guard:=none}] false).seq
    ((Code.cond (.tmp 6) .skip (.exit 0)).seq
    ((Code.block 1
     ((zH 2 #[{dst:=some 7,op:=.indexAddr 27 (.tmp 1) (.tmp 5),type:=0,pos:= "",after:= #[],guard:=none}, {dst:=some 8,op:=.load 22 (.tmp 7),type:=22,pos:= "",after:= #[],guard:=none}] false).seq
     ((zH 3 #[{dst:=some 9,op:=.call {callee:=.value (.func 126),args:= #[.tmp 0,.tmp 8,.tmp 2],argTypes:= #[112,22,23]},type:=4,pos:= "",after:= #[],guard:=none}] false).seq
     (Code.cond (.tmp 9)
      (zH 4 #[{dst:=some 10,op:=.buildSlice 27 1 #[(0,.tmp 8)],type:=27,pos:= "",after:= #[],guard:=none}, {dst:=some 11,op:=.call {callee:=.builtin .append,args:= #[.tmp 3,.tmp 10],argTypes:= #[27,27]},type:=27,pos:= "",after:= #[],guard:=none}, {dst:=some 3,op:=.assign (.tmp 11),type:=27,pos:= "",after:= #[],guard:=none}] false)
      .skip)))).seq
    (zH 5 #[{dst:=some 12,op:=.binOp .add 3 (.tmp 5) (.const (.int .i64 1)) 3,type:=3,pos:= "",after:= #[],guard:=none}, {dst:=some 5,op:=.move (.tmp 12),type:=3,pos:= "",after:= #[],guard:=none}] false)))))).seq
   .ret)),
  norace:=false,file:= "",endLine:=0,tmpNames:= #[]}
def JV:Func:=
 {name:= "fitting.alone",origin:= "",params:= #[112,27,23],resultTypes:= #[27],nfree:=0,ntmps:=14,results:= #[.tmp 6],
  body:=some (
   (zH 0 #[{dst:=some 6,op:=.assign (.const (.slice none 0 0)),type:=27,pos:= "",after:= #[],guard:=none}, {dst:=some 7,op:=.buildSlice 22 1 #[],type:=22,pos:= "",after:= #[],guard:=none}, {dst:=some 8,op:=.call {callee:=.builtin .append,args:= #[(.const (.slice none 0 0)),.tmp 7],argTypes:= #[22,22]},type:=22,pos:= "",after:= #[],guard:=none}, {dst:=some 9,op:=.call {callee:=.builtin .cap,args:= #[.tmp 8],argTypes:= #[22]},type:=3,pos:= "",after:= #[],guard:=none}, {dst:=some 10,op:=.binOp .eql 3 (.tmp 9) (.const (.int .i64 1)) 3,type:=4,pos:= "",after:= #[],guard:=none}] false).seq
   ((Code.cond (.tmp 10) (zH 1 #[{dst:=some 11,op:=.makeFunc (.func 156) #[] #[.tmp 0,.tmp 1,.tmp 2,.tmp 7],type:=1,pos:= "",after:= #[],guard:=none}, {dst:=some 12,op:=.makeInterface 1 (.tmp 11),type:=20,pos:= "",after:= #[],guard:=none}, {dst:=none,op:=.panic (.tmp 12),type:=0,pos:= "",after:= #[],guard:=none}] false) .skip).seq
   ((zH 2 #[{dst:=some 11,op:=.call {callee:=.value (.func 155),args:= #[.tmp 0,.tmp 1,.tmp 2],argTypes:= #[112,27,23]},type:=27,pos:= "",after:= #[],guard:=none}] false).seq
   ((zH 3 #[{dst:=some 12,op:=.call {callee:=.builtin .append,args:= #[(.const (.slice none 0 0)),.tmp 11],argTypes:= #[27,27]},type:=27,pos:= "",after:= #[],guard:=none}, {dst:=some 6,op:=.assign (.tmp 12),type:=27,pos:= "",after:= #[],guard:=none}] false).seq
   .ret)))),
  norace:=false,file:= "",endLine:=0,tmpNames:= #[]}
noncomputable def mD (P_:Func):Zp:=CE Zd P_ JV L0 LZ
theorem Vg {P_:Func}(h:P_.body.isSome=true∧(P_.name== "runtime.NumGoroutine")=false):FE (mD P_):=Xu h ⟨rfl,by decide⟩
def P_:Func:=
 {name:= "errors.As.alone",origin:= "",params:= #[117,20],resultTypes:= #[4],nfree:=0,ntmps:=14,results:= #[.tmp 4],
  body:=some (
   (zH 0 #[{dst:=some 4,op:=.assign (.const (.bool false)),type:=4,pos:= "",after:= #[],guard:=none}, {dst:=some 7,op:=.buildSlice 22 1 #[],type:=22,pos:= "",after:= #[],guard:=none}, {dst:=some 8,op:=.call {callee:=.builtin .append,args:= #[(.const (.slice none 0 0)),.tmp 7],argTypes:= #[22,22]},type:=22,pos:= "",after:= #[],guard:=none}, {dst:=some 9,op:=.call {callee:=.builtin .cap,args:= #[.tmp 8],argTypes:= #[22]},type:=3,pos:= "",after:= #[],guard:=none}, {dst:=some 10,op:=.binOp .eql 3 (.tmp 9) (.const (.int .i64 1)) 3,type:=4,pos:= "",after:= #[],guard:=none}] false).seq
   ((Code.cond (.tmp 10) (zH 1 #[{dst:=some 11,op:=.makeFunc (.func 156) #[] #[.tmp 0,.tmp 1,.tmp 7],type:=1,pos:= "",after:= #[],guard:=none}, {dst:=some 12,op:=.makeInterface 1 (.tmp 11),type:=20,pos:= "",after:= #[],guard:=none}, {dst:=none,op:=.panic (.tmp 12),type:=0,pos:= "",after:= #[],guard:=none}] false) .skip).seq
   ((zH 2 #[{dst:=some 6,op:=.binOp .eql 117 (.tmp 0) (.const .nilIface) 117,type:=4,pos:= "",after:= #[],guard:=none}] false).seq
   ((Code.cond (.tmp 6) .ret .skip).seq
   ((zH 3 #[{dst:=some 13,op:=.typeAssert (.tmp 0) 117 121 false,type:=121,pos:= "",after:= #[],guard:=none}, {dst:=some 5,op:=.typeAssert (.tmp 1) 20 123 false,type:=123,pos:= "",after:= #[],guard:=none}, {dst:=none,op:=.store 121 (.tmp 5) (.tmp 13),type:=0,pos:= "",after:= #[],guard:=none}, {dst:=some 4,op:=.assign (.const (.bool true)),type:=4,pos:= "",after:= #[],guard:=none}] false).seq
   .ret))))),
  norace:=false,file:= "",endLine:=0,tmpNames:= #[]}
theorem AP:FE (mD P_):=Vg ⟨rfl,by decide⟩
end Go.Proofs.Fit
