/- Part of a proof. -/
import Derived.Test.YtdhgoldgnnpnmaaGreatDoorQ04
import Derived.Conc.BesideWords
import Derived.Conc.CrowdComm
set_option maxRecDepth 100000
set_option maxHeartbeats 6400000
noncomputable section
set_option linter.all false
open Array renaming getElem?_push_size->Zav,getElem?_modify->Y7,getElem?_setIfInBounds_ne->Zk,mem_iff_getElem->ZbL,getElem?_eq_getElem->Zx,getElem?_eq_some_iff->Za,getElem?_map->zF,getElem?_setIfInBounds_self_of_lt->ZV,toList->ZbD,getD_eq_getD_getElem?->Yp,replicate->Yu,mem_of_getElem?->zY
open Go renaming World->Zb,Value->Zf,undef->Ze,Frame->ZM,Goroutine->Zi,storedEv->Yv,Program->Zo,TypeId->Zs,stepG->za,Event->Z9,Trace->YZ,runNT->ZaE,PanicEntry->zk,FuncId->ZaQ
open Go.Act renaming put->Zck
open Go.Addr renaming add->Zcu
open Go.Builtin renaming zeroCells->Zt
open Go.Conc renaming AtRel->Zct,stepG_seq->Zn,stepG_region_end->Zg,stepG_block->Zbq,stepG_skip->ZU,goes_oper_k->zx,mem_listed->zO,evL_cell->YJ,stepG_ret'->z8,events_results_tmp->ZdW,crowd->Yj,runT_crowd_go->Zb1,Deaf_other->Y0,mem_ofEvents->ZQ,served->YU
open Go.Conc.Goes renaming stop->ZT
open Go.Deferred renaming ofValue->Yd
open Go.Frame renaming enter->Zq,raise->ZaV
open Go.Instr renaming indexAt->Zb9,sliceAt->ZaI,sliceBounds->Zbf
open Go.IntWalk renaming i64_in->ZcD
open Go.MemAct renaming ofEvent->ZR,touch?->Yg,low->Zce
open Go.MemOp renaming ofEvents->ZK
open Go.Proofs.Tryz renaming prog->Zc,f25->zK,runUnderlying130->Zbz,runUnderlying116->ZdI,zeroValue129->Zcy
open Go.Question renaming appendCap->zJ
open Go.RowKit renaming Below->YH
open Go.RowKit.Below renaming heap_setCell->Y4,heap_alloc->zD
open Go.Value.tuple renaming inj->Zdt
open Go.World renaming size_alloc->ZB,setCell->Z8,alloc->Zaz,cell?->zy,frozen?_of_block->ZdX,cell?_of_block->zn,shape?->Yn,frozen?->Yo,block_lt_of_cell?->ZH
open List renaming getElem?_map->YL,mem_of_getElem?->Z3,getElem?_eq_some_iff->Zm,length_take->ZcV,getElem?_take_of_lt->Z2,getElem?_toArray->ZG
open List.cons renaming inj->zL
open Nat renaming lt_of_lt_of_le->Zl,le_trans->Zr,le_refl->Zj,eq_zero_or_pos->zQ,zero_le->Zp
open Ne renaming symm->Za0
open Option renaming map_eq_some_iff->zc,getD_some->Zw,map_some->Zdh
open Option.some renaming injEq->ZJ,inj->ZW
namespace Go.Proofs.Fit
open Go Go.Conc
def BC:Code:=Tryz.f25.body.getD .skip
def GQ:Code->Code
 | .seq a _=>a
 |c=>c
def DI:Code->Code
 | .seq _ b=>b
 |c=>c
def Kk:Code->Code
 | .block _ (.loop c)=>c
 |c=>c
def Dt:Code:=DI (DI (DI BC))
def Jg:Code:=Kk (DI (GQ Dt))
def Eb:Code:=DI Dt
def FU:Code:=DI Eb
def tF:Array Oper:=match GQ Eb with| .region _ ops _=>ops|_=> #[]
def W1 (W:Zb)(gc:Array Zf)(lv sv:Zf):Zb:=
 (((((W.alloc (.cells gc 62)).alloc (.cells #[lv] 33)).alloc (.cells #[sv] 25)).alloc (.chan 2 #[] false 0 0 false)).alloc (.cells #[.chan (some (W.heap.size+3))] 116)).alloc (.cells #[.int .u64 0,.int .u32 0] 125)
def Du (b:Nat):Zf:=.pointer (some ⟨b,0,none⟩)
def TM (n:Nat)(gv lv sv x9 MH Lx Ly K0 K1 Kr Kl:Zf):Array Zf:=
 #[gv,lv,sv,Du n,Du (n+1),Du (n+2),.slice none 0 0,Du (n+4),Du (n+5),x9,Ze,Ze,.chan (some (n+3)),MH,Lx,Ly,K0,K1,Kr,Kl,Ze,Ze,Ze,Ze,Ze,Ze,Ze,Ze,Ze,Ze,Ze,Ze]
def T1 (n:Nat)(gv lv sv:Zf):Array Zf:=TM n gv lv sv Ze Ze Ze Ze Ze Ze Ze Ze
end Go.Proofs.Fit
set_option linter.unusedSimpArgs false
namespace Go.Proofs.Fit
open Go Go.Conc Go.ConcX Go.RowKit Go.Conc.Lib Go.ConcX.Gen
def tG:∃i,Tryz.prog.info? 129=some i/\i.bytes=32:=by
 have h:(Tryz.prog.info? 129).map (·.bytes)=some 32:=by kernel_rfl
 obtain⟨i,h1,h2⟩:=zc.1 h;exact⟨i,h1,h2⟩
variable {Shun:Loc->Prop}
variable {W w₀ w w' wl w₁:Zb}
variable {gc a gc':Array Zf}
variable {c1 pb k Wg B n r K c b ln lc lo hi:Nat}
variable {cs:List ZM}
def oG {a1 a2:Option Addr}{l1 l2 c2:Nat}(hS:∀a:Addr,W.heap.size<=a.block->¬Shun (.cell a)):
  Goes Zc true Zct (DE (EvL Shun (W.heap.size+6))) (fun g w=>g=G ((base 25).at ⟨T1 W.heap.size (.agg gc) (.slice a1 l1 c1) (.slice a2 l2 c2),[]⟩ [.code Dt]) cs/\∃d,w=(W1 W gc (.slice a1 l1 c1) (.slice a2 l2 c2)).at d) 20
   (G ((base 25).at ⟨#[.agg gc,.slice a1 l1 c1,.slice a2 l2 c2,Ze,Ze,Ze,Ze,Ze,Ze,Ze,Ze,Ze,Ze,Ze,Ze,Ze,Ze,Ze,Ze,Ze,Ze,Ze,Ze,Ze,Ze,Ze,Ze,Ze,Ze,Ze,Ze,Ze],[]⟩ [.code BC]) cs) W:=by
 obtain⟨i,hi,hb⟩:=tG;have hm:∀w,(Instr.makeChan 116 (.int .i64 2)).run Zc w=.ok (.chan (some w.heap.size)) (w.alloc (.chan 2 #[] false 0 0 false)):=fun w=>run_makeChan (P:=Zc) (w:=w) (t:=116) Tryz.underlying116 hi .i64 2 (by omega) (by rw[hb];omega);have hme:∀w es,(Instr.makeChan 116 (.int .i64 2)).events Zc w es=es:=fun w es=>events_makeChan (P:=Zc) (w:=w) (t:=116) Tryz.underlying116 hi .i64 2 (by omega) (by rw[hb];omega) es;clear hi hb;simp only[BC,zK,Zw]
 l_c Zn
 l_reg
 i_opw (hS _ (by simp<;>omega))
 i_opw (hS _ (by simp<;>omega))
 i_opw (hS _ (by simp<;>omega))
 l_op
 l_c Zg
 l_c Zn
 l_reg
 i_opw (hS _ (by simp<;>omega))
 i_opw (hS _ (by simp<;>omega))
 i_opw (hS _ (by simp<;>omega))
 l_c Zg
 l_c Zn
 l_reg
 i_opw (hS _ (by simp<;>omega))
 l_c Zg
 refine ZT (fun w₁ BO=>?_);obtain⟨d,hd⟩:=BO;subst hd;simp only[alloc_at,setCell_at,at_at];refine⟨?_,_,rfl⟩;simp[T1,TM,Dt,DI,BC,zK,Du]
end Go.Proofs.Fit
set_option linter.unusedSimpArgs false
namespace Go.Proofs.Fit
open Go Go.Conc Go.FA Go.Pair Go.RowKit Go.Conc.Lib Go.ConcR.Gen Go.ConcN.Gen
open Go.ConcN (WgLive)
open Go.ConcR (DC0)
def jQ (S:Nat->Prop)(w:Zb)(o:Obj):Ib S w (w.alloc o)=fun b=>S b\/b=w.heap.size:=by
 funext b
 apply propext;unfold Ib;rw[ZB];constructor
 .rintro(h|h)
  .exact .inl h
  exact .inr (by omega)
 rintro(h|h)
 .exact .inl h
 exact .inr (by omega)
def aK (S:Nat->Prop)(w:Zb)(a:Addr)(v:Zf):Ib S w (w.setCell a v)=S:=by
 funext b
 apply propext;unfold Ib;have:(w.setCell a v).heap.size=w.heap.size:=by simp[Z8]
 rw[this];constructor
 .rintro(h|h)
  .exact h
  omega
 exact .inl
def FV (T:Array Zf)(cs:List ZM):Zi:=G ((base 25).at ⟨T,[]⟩ [.code Jg,.inLoop Jg,.inBlock 0,.code Eb]) cs
section
variable {Lk S:Nat->Prop}{Wg n:Nat}{gv lv sv:Zf}{cs:List ZM}
def jR (w:Zb):Goes Zc true (Ah 125 Wg S) DC0 (fun g _=>g=FV (TM n gv lv sv Ze (.int .i64 0) Ze Ze Ze Ze Ze Ze) cs) 8 (G ((base 25).at ⟨T1 n gv lv sv,[]⟩ [.code Dt]) cs) w:=by
 have hK:True:=trivial;simp only[T1,TM,Dt,DI,BC,zK,Zw]
 u_c Zn Dp hK
 u_c Zn Dp hK
 u_reg Dp hK
 u_op Dp hK
 u_c Zg Dp hK
 u_c Zbq Dp hK
 u_c stepG_loop Dp hK
 refine ZT fun _ _=>?_;simp[FV,Jg,Kk,GQ,TM,Eb,Dt,DI,BC,zK]
end
structure AF (S:Nat->Prop)(pb:Nat)(k:Nat)(w₀ w:Zb):Prop where
 base:D1 S w₀ w
 cell:w.heap[pb]?=some (.cells #[.int .i64 k] 3 (0,0))
 lt:pb<w.heap.size
variable {S:Nat->Prop}
variable {c1 pb k Wg B n r K c b ln lc lo hi:Nat}
variable {W w₀ w w' wl w₁:Zb}
def oH (hS:¬S Wg)(hp:pb≠Wg):Gm 125 Wg (fun b=>S b\/b=pb) (AF S pb k w₀) where
 rely w w' r h:=⟨h.base.trans ⟨fun b hb=>r.base.same b (.inl hb),r.base.size,r.base.os⟩,(r.base.same pb (.inr rfl)).trans h.cell,Zl h.lt r.base.size⟩
 set w a v ha h:=by
  have hh:∀b,b≠Wg->(w.setCell a v).heap[b]?=w.heap[b]? :=fun b hb=>Y4 w a v b (by rw[ha];exact hb);refine⟨h.base.trans ⟨fun b hb=>hh b (fun e=>hS (e▸hb)),by simp[Z8],rfl⟩,?_,by simpa[Z8]using h.lt⟩;exact(hh pb hp).trans h.cell
def MI (n pb:Nat):Zf:=.func (.func 57) #[] (IL (n+5) (n+1) pb n (n+2) (n+4))
def oI:Code->Code
 | .block _ c=>c
 |c=>c
def jS:Code->Array Oper
 | .region _ ops _=>ops
 |_=> #[]
def O0:Code:=oI (GQ (DI (DI Jg)))
def aaq:Array Oper:=jS (GQ O0)
def r67:Code:=DI O0
def r7:Code:=DI r67
def aar:Array Oper:=jS r7
def r8:Code:=DI (DI (DI Jg))
def k5:List Item:=[.inBlock 1,.code r8,.inLoop Jg,.inBlock 0,.code Eb]
def UR (n pb k:Nat)(gv lv sv Kr Kl:Zf)(cs:List ZM):Zi:=
 G ((base 25).at ⟨TM n gv lv sv (Du pb) (.int .i64 k) (.bool true) (.int .i64 k) (.tuple #[]) (MI n pb) Kr Kl,[]⟩ (.inRegion aar []::k5)) cs
section
variable {Lk S:Nat->Prop}{n k:Nat}{gv lv sv x9 Lx Ly K0 K1 Kr Kl:Zf}{cs:List ZM}{Pay:Gk}{Next:Cd}
def US (hk:k<2)(w:Zb)(KW:WgLive 125 (n+5) w)(hW:n+5<w.heap.size)(gD:¬S (n+5))(hSl:∀b,S b->b<w.heap.size)(oJ:∀b,Lk b->b<w.heap.size)
 (afO:∀(pb:Nat) (w':Zb),w.heap.size<=pb->pb<w'.heap.size->D1 S w w'->WgLive 125 (n+5) w'->w'.heap[pb]?=some (.cells #[.int .i64 k] 3 (0,0))->
 Be Zc false 125 (n+5) (fun b=>S b\/b=pb) (Pair.AtSend Zc 125 (n+5) (n+3) Pay) (fun b=>S b\/b=pb) (born Zc (call156 (n+5) (n+1) pb n (n+2) (n+4))) w'/\
 Next (fun b=>S b\/b=pb) (UR n pb k gv lv sv Kr Kl cs) w'):
  Be Zc true 125 (n+5) Lk (AtKdS Zc 125 (n+5) (n+3) Pay Next) S (FV (TM n gv lv sv x9 (.int .i64 k) Lx Ly K0 K1 Kr Kl) cs) w:=by
 have hK:True:=trivial;have Az:((k:Int)<2):=by omega
 have hA:Be Zc true 125 (n+5) Lk (fun S' g w'=>S'=S/\D1 S w w'/\WgLive 125 (n+5) w'/\g=G ((base 25).at ⟨TM n gv lv sv x9 (.int .i64 k) (.bool true) (.int .i64 k) K0 K1 Kr Kl,[]⟩ (.inRegion aaq [1,2]:: .code r67::k5)) cs) S (FV (TM n gv lv sv x9 (.int .i64 k) Lx Ly K0 K1 Kr Kl) cs) w:=by
  refine Be.G2 (n:=20) ?_;have hF:D1 S w w/\WgLive 125 (n+5) w:=⟨D1.refl _ _,KW⟩;have rl:∀ {a b:Zb},D1 S w a/\WgLive 125 (n+5) a->Ah 125 (n+5) S a b->D1 S w b/\WgLive 125 (n+5) b:=fun h r=>⟨h.1.trans r.base,r.live h.2⟩;simp only[FV,Jg,Kk,GQ,TM,Eb,Dt,DI,BC,zK,Zw]
  u_c Zn rl hF
  u_reg rl hF
  u_op rl hF
  u_c Zg rl hF
  u_c Zn rl hF
  u_cond true rl hF
  u_c ZU rl hF
  u_c Zn rl hF
  u_c Zbq rl hF
  u_c Zn rl hF
  u_reg rl hF
  u_op rl hF
  refine ZT fun _ r=>⟨trivial,(rl hF r).1,(rl hF r).2,?_⟩;simp[FV,k5,r67,r8,aaq,O0,oI,jS,Jg,Kk,GQ,TM,Eb,Dt,DI,BC,zK]
 refine hA.bind fun S' g w₁ B_=>?_;obtain⟨rfl,NC,aL,rfl⟩:=B_ w₁ (Ah.refl w₁);clear hA B_;refine Be.Q9 rfl fun w₂ hr=>?_;have oK:=NC.trans hr.base;have wO:=hr.live aL;have GU:w.heap.size<=w₂.heap.size:=oK.size;clear hr NC aL;simp only[aaq,k5,r67,r8,O0,oI,jS,Jg,Kk,GQ,TM,Eb,Dt,DI,BC,zK,Zw];refine zx rfl rfl (by decide) (fun K hK=>?_)
 go_simp
 refine hK _ _ ⟨⟨by simp,fun b hb _=>zD _ _ _ hb,rfl,rfl,rfl,fun e he=>?_⟩,?_⟩
 .have hm:=zO he
  simp[go_sem, *]at hm
 clear hK K;rw[jQ];have gQ:(w₂.alloc (.cells #[.int .i64 0] 3)).heap[w₂.heap.size]?=some (.cells #[.int .i64 0] 3 (0,0)):=by
  unfold Zaz;exact Zav
 have gR:(w₂.alloc (.cells #[.int .i64 0] 3)).frozen? ⟨w₂.heap.size,0,none⟩=false:=by simp[go_sem]
 have UT:D1 S' w (w₂.alloc (.cells #[.int .i64 0] 3)):=oK.trans ⟨fun b hb=>zD _ _ _ (Zl (hSl b hb) GU),by simp,rfl⟩;have aM:WgLive 125 (n+5) (w₂.alloc (.cells #[.int .i64 0] 3)):=WgLive.of_heap wO (zD _ _ _ (by omega));have hz:w₂.heap.size<(w₂.alloc (.cells #[.int .i64 0] 3)).heap.size:=by simp
 generalize hpb:w₂.heap.size=pb at*;generalize w₂.alloc (.cells #[.int .i64 0] 3)=DZ at*;clear oK wO hpb;refine Be.Q9 rfl fun KU hr=>?_;have wP:=UT.trans (⟨fun b hb=>hr.base.same b (.inl hb),hr.base.size,hr.base.os⟩:D1 S' DZ KU);have wQ:=hr.live aM;have oL:=(hr.base.same pb (.inr rfl)).trans gQ;have afP:KU.cell? ⟨pb,0,none⟩=some (.int .i64 0):=by unfold zy;rw[oL];rfl
 have afQ:=(ZdX (a:=⟨pb,0,none⟩) (hr.base.same pb (.inr rfl))).trans gR;have wR:pb<KU.heap.size:=Zl hz hr.base.size;clear hr UT aM gQ gR hz;refine zx rfl rfl (by decide) (fun K hK=>?_)
 go_simp
 have hpW:pb≠n+5:=by omega
 have hh:∀b,b≠pb->(KU.setCell ⟨pb,0,none⟩ (.int .i64 k)).heap[b]?=KU.heap[b]? :=fun b hb=>Y4 KU _ _ b hb;refine hK _ _ ⟨⟨by simp[Z8],fun b hb hx=>hh b fun e=>?_,rfl,rfl,rfl,fun e he=>?_⟩,?_⟩
 .subst e
  rcases hx with hx|hx
  .exact hx (.inr rfl)
  have:=oJ b hx;omega
 .have hm:=zO he
  simp[go_sem,Yv, *]at hm;subst hm;exact⟨.inl (.inr rfl),fun _ hx=>by have:=oJ pb hx;omega⟩
 clear hK K;rw[aK];have wS:AF S' pb k w (KU.setCell ⟨pb,0,none⟩ (.int .i64 k)):=
  ⟨wP.trans ⟨fun b hb=>hh b fun e=>by have:=hSl b hb;omega,by simp[Z8],rfl⟩,by unfold Z8;simp only[Y7,if_pos,oL,Zdh];rfl,by simpa[Z8]using wR⟩
 have wT:WgLive 125 (n+5) (KU.setCell ⟨pb,0,none⟩ (.int .i64 k)):=WgLive.of_heap wQ (hh _ (Za0 hpW));generalize KU.setCell ⟨pb,0,none⟩ (.int .i64 k)=tg at*;clear wP wQ afP oL afQ wR hh;have hAK:Gm 125 (n+5) (fun b=>S' b\/b=pb) (AF S' pb k w):=oH gD hpW;have hF:AF S' pb k w tg/\WgLive 125 (n+5) tg:=⟨wS,wT⟩;clear wS wT;refine Be.G2 (n:=50) ?_;have rl:= @Ab 125 (n+5) _ _ hAK
 u_c Zg rl hF
 u_c Zn rl hF
 u_reg rl hF
 u_in rl hF
 refine goes_call rfl rfl (by k_ne) rfl Tryz.UI.f_add (nm_add Tryz.link) rfl ⟨by u_nil,?_⟩
 walk_nrmf addFn
 have hP:= @tf Tryz.link Zc Tryz.UI (n+5) (n+3) _ _ hAK Pay Next;simp only[body_add,addFn,Zw]at hP;refine QB (hP (mT:=12) (fun th wU wV=>?_) _ hF) (by omega);clear hP hF;have hF:AF S' pb k w th/\WgLive 125 (n+5) th:=⟨wU,wV⟩;clear wU wV
 walk_nrm
 u_c Zg rl hF
 u_reg rl hF
 u_op rl hF
 refine ZT fun afR r=>?_;replace hF:=rl hF r;clear r;obtain⟨h1,h2⟩:=afO pb afR GU hF.1.lt hF.1.base hF.2 hF.1.cell;refine⟨rfl,_,_,?_,h1,h2⟩;rw[stepG_spawn (d:=call156 (n+5) (n+1) pb n (n+2) (n+4)) (w':=afR) (f:=.func 57) (c:=IL (n+5) (n+1) pb n (n+2) (n+4)) rfl rfl (by decide) (by simp[go_sem,call156,Yd,IL,ptr,Du]) rfl];simp[listed,go_sem,seen,Yd];simp[UR,MI,IL,ptr,Du,TM,k5,aar,r7,r67,r8,O0,oI,jS,Jg,Kk,GQ,Eb,Dt,DI,BC,zK,Zck]
 rfl
end
end Go.Proofs.Fit
set_option linter.unusedSimpArgs false
namespace Go.Proofs.Fit
open Go Go.Conc Go.FA Go.Pair Go.RowKit Go.Conc.Lib Go.ConcR.Gen Go.ConcN.Gen
open Go.ConcN (WgLive)
open Go.ConcR (DC0)
section
variable {P:Zo}{ty:Zs}{Wg:Nat}{Anch A A':Cd}{S:Nat->Prop}
variable {g:Zi}
variable {W w₀ w w' wl w₁:Zb}
def jT (h:∀S g w,A S g w->A' S g w){vs:Nat}(x:AtW2 P ty Wg Anch A S vs g w):AtW2 P ty Wg Anch A' S vs g w:=by
 obtain⟨h0,hx⟩:=x;refine⟨h0,fun v hv hw=>⟨(hx v hv hw).1,fun BL=>?_⟩⟩;obtain⟨g',h1,m,h2⟩:=(hx v hv hw).2 BL;exact⟨g',h1,m,EA (fun g w=>h S g w) h2⟩
def jU (h:∀S g w,A S g w->A' S g w)(x:AtW1 P ty Wg Anch A S g w):AtW1 P ty Wg Anch A' S g w:=by
 obtain⟨h0,hx⟩:=x;refine⟨h0,fun v hv hw=>?_⟩;obtain⟨g',h1,h2,h3⟩:=hx v hv hw;refine⟨g',h1,h2,fun BL=>?_⟩;obtain⟨m,h4⟩:=h3 BL;exact⟨m,EA (fun g w=>jT h) h4⟩
def jV (h:∀S g w,A S g w->A' S g w)(x:AtKd P ty Wg A S g w):AtKd P ty Wg A' S g w:=by
 obtain⟨h0,g',h1,m,h2⟩:=x;exact⟨h0,g',h1,m,EA (fun g w=>h S g w) h2⟩
end
variable {P:Zo}
variable {c1 pb k Wg B n r K c b ln lc lo hi:Nat}
variable {S:Nat->Prop}
variable {W w₀ w w' wl w₁:Zb}
def O1 {m:Bool}{ty:Zs}{St:Zi->Zb->Prop}:∀ {n:Nat} {g:Zi} {w:Zb},Ah ty Wg S w₀ w->Goes P m (Ah ty Wg S) DC0 St n g w->Goes P m (Ah ty Wg S) DC0 (fun g w'=>Ah ty Wg S w₀ w'/\St g w') n g w:=by
 intro n
 induction n with
 |zero=>intro g w hr h w₁ r;exact⟨hr.trans r,h w₁ r⟩
 |succ n ih=>
  intro g w hr h;rcases h with h|⟨hs,h⟩
  .exact .inl fun w₁ r=>⟨hr.trans r,h w₁ r⟩
  refine .inr ⟨hs,fun w₁ r=>?_⟩;have:=h w₁ r;cases hx:za P m g w₁ with
  |go g' w' es=>
   rw[hx,goes_go]at this;rw[goes_go];obtain⟨⟨rfl,rfl⟩,hg⟩:=this;exact⟨⟨rfl,rfl⟩,ih (hr.trans r) hg⟩
  |_=>rw[hx]at this;exact this.elim
def oM (Wg:Nat)(S:Nat->Prop):Gm 125 Wg S (fun _=>True):=⟨fun _ _ _ h=>h,fun _ _ _ _ h=>h⟩
def gS (n pb:Nat)(gv lv sv Kl:Zf)(rest:List Nat):ZM:=
 (base 25).at ⟨TM n gv lv sv (Du pb) (.int .i64 2) (.bool false) (.int .i64 1) (.tuple #[]) (MI n pb) (.int .i64 2) Kl,[]⟩ (.inRegion tF rest:: [.code FU])
def We (n pb:Nat)(gv lv sv:Zf)(cs:List ZM):Zi:=G (gS n pb gv lv sv (.tuple #[]) []) cs
def gT (n:Nat)(gv lv sv:Zf)(cs:List ZM):Cd:=fun _ g _=>∃pb,g=We n pb gv lv sv cs
def Sj (n:Nat)(gv lv sv:Zf)(cs:List ZM):Cd:=fun S g w=>∃pb,VW Tryz.link (fun _ _=>True) (n+5) (gS n pb gv lv sv Ze [0]) cs S g w
section
variable {S:Nat->Prop}{n k:Nat}{gv lv sv:Zf}{cs:List ZM}
def TX:∀S g w,gT n gv lv sv cs S g w->g.status=.running:=by
 rintro S g w ⟨pb,rfl⟩
 rfl
def Sk:∀S g w,Sj n gv lv sv cs S g w->g.status=.running:=by
 rintro S g w ⟨pb,_,T,rfl,_⟩
 rfl
def aN:∀S g w,Sj n gv lv sv cs S g w->∃m,Goes Zc true (Ah 125 (n+5) S) DC0 (AtW1 Zc 125 (n+5) (gT n gv lv sv cs) (Sj n gv lv sv cs) S) m g w:=by
 rintro S g w ⟨pb,h⟩;obtain⟨m,hm⟩:=dC (L:=Tryz.link) (P:=Zc) Tryz.UI (Wg:=n+5) (F:=fun _ _=>True) (Anch:=gT n gv lv sv cs) (b₀:=base 25) (mT:=0) (fun S _ w _ _=>by
  intro w₁ _;refine⟨pb,?_⟩;simp[We,gS,tF,Eb,GQ,Dt,DI,BC,zK,Zck,TM]) S g w h
 exact⟨m,EA (fun g w=>jU fun S g w h=>⟨pb,h⟩) hm⟩
variable {Kr Kl x9 MH Lx Ly K0 K1 Qj Q_ cJ TY Tt Tu Tv Tx Ty Tz v u:Zf}
def Sm (hk:k<2)(w:Zb):Goes Zc true (Ah 125 (n+5) S) DC0 (fun g w'=>D1 S w w'/\(WgLive 125 (n+5) w->WgLive 125 (n+5) w')/\g=FV (TM n gv lv sv (Du pb) (.int .i64 ((k:Int)+1)) (.bool true) (.int .i64 k) (.tuple #[]) (MI n pb) (.int .i64 ((k:Int)+1)) Kl) cs) 12 (UR n pb k gv lv sv Kr Kl cs) w:=by
 have hF:Ah 125 (n+5) S w w:=Ah.refl w;have h0:(0:Int)<=k:=by omega
 have h1:(k:Int)<2:=by omega
 have rl:∀ {a b:Zb},Ah 125 (n+5) S w a->Ah 125 (n+5) S a b->Ah 125 (n+5) S w b:=fun h r=>h.trans r;simp only[UR,k5,aar,r7,r67,r8,O0,oI,jS,Jg,Kk,GQ,TM,Eb,Dt,DI,BC,zK,Zw]
 u_c Zg rl hF
 u_c stepG_inBlock rl hF
 u_reg rl hF
 u_op rl hF
 u_op rl hF
 u_c Zg rl hF
 u_c stepG_inLoop rl hF
 refine ZT fun _ r=>⟨(rl hF r).base,(rl hF r).live,?_⟩;have hw:IntKind.i64.wrap ((k:Int)+1)=k+1:=ZcD _ (by omega);rw[hw];simp[FV,Jg,Kk,GQ,TM,Eb,Dt,DI,BC,zK]
def jW (w:Zb)(KW:WgLive 125 (n+5) w):
  Goes Zc true (Ah 125 (n+5) S) DC0 (AtKd Zc 125 (n+5) (Sj n gv lv sv cs) S) 30 (FV (TM n gv lv sv (Du pb) (.int .i64 2) (.bool true) (.int .i64 1) (.tuple #[]) (MI n pb) (.int .i64 2) Ze) cs) w:=by
 have hF:=KW;simp only[FV,Jg,Kk,GQ,TM,Eb,Dt,DI,BC,zK,Zw]
 u_c Zn Ag hF
 u_reg Ag hF
 u_op Ag hF
 u_c Zg Ag hF
 u_c Zn Ag hF
 u_cond false Ag hF
 u_exit Ag hF
 u_c Zn Ag hF
 u_reg Ag hF
 u_in Ag hF
 refine goes_call rfl rfl (by k_ne) rfl Tryz.UI.f_wait (nm_wait Tryz.link) rfl ⟨by u_nil,?_⟩
 walk_nrmf waitFn
 have hP:= @dD Tryz.link Zc Tryz.UI (n+5) (fun _ _=>True) S (oM _ _);simp only[body_wait,waitFn,Zw]at hP;refine QB (EA (fun g w h=>jV (fun S g w h=>⟨pb,?_⟩) h) (hP _ ⟨trivial,hF⟩)) (by omega);simpa[gS,tF,FU,Eb,GQ,Dt,DI,BC,zK,TM]using h
def aO {L:Nat->Prop}{Pay:Nat->Gk}(w:Zb)(KW:WgLive 125 (n+5) w)(hW:n+5<w.heap.size)(gD:¬S (n+5))(hSl:∀b,S b->b<w.heap.size)(hL:∀b,L b->b<w.heap.size)
 (hwk:∀(k pb:Nat) (S':Nat->Prop) (w':Zb),k<2->(∀b,S b->S' b)->S' pb->(∀b,S' b->S b\/w.heap.size<=b)->(∀b,S' b->b<w'.heap.size)->D1 S w w'->WgLive 125 (n+5) w'->w'.heap[pb]?=some (.cells #[.int .i64 k] 3 (0,0))->w.heap.size<=pb->
 Be Zc false 125 (n+5) S' (Pair.AtSend Zc 125 (n+5) (n+3) (Pay k)) S' (born Zc (call156 (n+5) (n+1) pb n (n+2) (n+4))) w'):
  Be Zc true 125 (n+5) L (AtKdS Zc 125 (n+5) (n+3) (Pay 0) (wj Zc 125 (n+5) (n+3) Pay 2 (Sj n gv lv sv cs) 1)) S (G ((base 25).at ⟨T1 n gv lv sv,[]⟩ [.code Dt]) cs) w:=by
 have h0:Be Zc true 125 (n+5) L (fun S' g w'=>S'=S/\Ah 125 (n+5) S w w'/\g=FV (TM n gv lv sv Ze (.int .i64 0) Ze Ze Ze Ze Ze Ze) cs) S (G ((base 25).at ⟨T1 n gv lv sv,[]⟩ [.code Dt]) cs) w:=
  Be.G2 (n:=8) (EA (fun g w' h=>⟨rfl,h⟩) (O1 (Ah.refl w) (jR (S:=S) (n:=n) (gv:=gv) (lv:=lv) (sv:=sv) (cs:=cs) (Wg:=n+5) w)))
 refine h0.bind fun S₀ akB w₀ B_=>?_;obtain⟨rfl,gU,rfl⟩:=B_ w₀ (Ah.refl w₀);clear h0 B_;have oN:=gU.base.size;refine US (k:=0) (by omega) w₀ (gU.live KW) (by omega) gD (fun b hb=>Zl (hSl b hb) oN) (fun b hb=>Zl (hL b hb) oN) fun MJ w₁ lO VK NC aL afS=>?_;have alu:=NC.size;have KH:∀b,S₀ b\/b=MJ->b<w₁.heap.size:=by
  rintro b (hb|rfl)
  .have:=hSl b hb;omega
  exact VK
 refine⟨hwk 0 MJ _ w₁ (by omega) (fun b hb=>.inl hb) (.inr rfl) (fun b hb=>hb.imp id fun e=>by omega) KH (gU.base.trans NC) aL afS (by omega),?_⟩;show Be _ _ _ _ _ _ _ _ _;have h1:Be Zc true 125 (n+5) (fun b=>S₀ b\/b=MJ) (fun S' g w'=>S'=(fun b=>S₀ b\/b=MJ)/\Ah 125 (n+5) (fun b=>S₀ b\/b=MJ) w₁ w'/\g=FV (TM n gv lv sv (Du MJ) (.int .i64 1) (.bool true) (.int .i64 0) (.tuple #[]) (MI n MJ) (.int .i64 1) Ze) cs) (fun b=>S₀ b\/b=MJ) (UR n MJ 0 gv lv sv Ze Ze cs) w₁:=
  Be.G2 (n:=12) (EA (fun g w' h=>⟨rfl,h.1,h.2.2.2⟩) (O1 (Ah.refl w₁) (Sm (S:=fun b=>S₀ b\/b=MJ) (n:=n) (k:=0) (by omega) w₁)))
 refine h1.bind fun S' g w₂ B_=>?_;obtain⟨rfl,FC,rfl⟩:=B_ w₂ (Ah.refl w₂);clear h1 B_;have Wf:=FC.base.size;refine US (k:=1) (by omega) w₂ (FC.live aL) (by omega) (fun h=>h.elim gD fun e=>by omega) (fun b hb=>Zl (KH b hb) Wf) (fun b hb=>Zl (KH b hb) Wf) fun Wh DZ hp3 hp4 UT aM gQ=>?_;have oO:=UT.size;have hR:D1 S₀ w DZ:=(gU.base.trans NC).trans (⟨fun b hb=>(UT.same b (.inl hb)).trans (FC.base.same b (.inl hb)),Zr Wf oO,UT.os.trans FC.base.os⟩);refine⟨hwk 1 Wh _ DZ (by omega) (fun b hb=>.inl (.inl hb)) (.inr rfl) (fun b hb=>?_) (fun b hb=>?_) hR aM gQ (by omega),?_⟩
 .rcases hb with(hb|hb)|hb
  .exact .inl hb
  .exact .inr (by omega)
  exact .inr (by omega)
 .rcases hb with hb|hb
  .exact Zl (KH b hb) (Zr Wf oO)
  omega
 show Be _ _ _ _ _ _ _ _ _;have h2:Be Zc true 125 (n+5) (fun b=>(S₀ b\/b=MJ)\/b=Wh) (fun S' g w'=>S'=(fun b=>(S₀ b\/b=MJ)\/b=Wh)/\Ah 125 (n+5) (fun b=>(S₀ b\/b=MJ)\/b=Wh) DZ w'/\g=FV (TM n gv lv sv (Du Wh) (.int .i64 2) (.bool true) (.int .i64 1) (.tuple #[]) (MI n Wh) (.int .i64 2) Ze) cs) (fun b=>(S₀ b\/b=MJ)\/b=Wh) (UR n Wh 1 gv lv sv (.int .i64 1) Ze cs) DZ:=
  Be.G2 (n:=12) (EA (fun g w' h=>⟨rfl,h.1,h.2.2.2⟩) (O1 (Ah.refl DZ) (Sm (S:=fun b=>(S₀ b\/b=MJ)\/b=Wh) (n:=n) (k:=1) (by omega) DZ)))
 refine h2.bind fun S' g KU B_=>?_;obtain⟨rfl,RZ,rfl⟩:=B_ KU (Ah.refl KU);exact Be.G2 (jW KU (RZ.live aM))
end
end Go.Proofs.Fit
set_option linter.unusedSimpArgs false
namespace Go.Proofs.Fit
open Go Go.Conc Go.ConcX Go.RowKit Go.Conc.Lib Go.ConcX.Gen
def Ma:Code:=DI (DI FU)
def JK:Code:=Kk (DI (GQ Ma))
def JL:Code:=DI Ma
def PE:Array Oper:=match GQ JK with| .region _ ops _=>ops|_=> #[]
def Lz:Code:=DI JK
def k13:List Item:=[.code Lz,.inLoop JK,.inBlock 2,.code JL]
def TJ (n:Nat)(gv lv sv x9 MH Lx Ly K0 K1 Kr Kl jX Qj Q_ cJ oP TY Tt Tu Tv Tx Ty Tz:Zf):Array Zf:=
 #[gv,lv,sv,Du n,Du (n+1),Du (n+2),.slice none 0 0,Du (n+4),Du (n+5),x9,jX,Qj,.chan (some (n+3)),MH,Lx,Ly,K0,K1,Kr,Kl,Q_,cJ,oP,TY,Tt,Tu,Tv,Tx,Ty,Tz,Ze,Ze]
def Kc (T:Array Zf)(cs:List ZM):Zi:=G ((base 25).at ⟨T,[]⟩ (.inRegion PE [0,1]::k13)) cs
variable {Shun:Loc->Prop}
variable {c1 pb k Wg B n r K c b ln lc lo hi:Nat}
def gV (r:Nat)(wr:Bool)(hB:r<B):EvL Shun B ⟨.obj r,wr,true⟩:=by
 cases wr
 .refine⟨fun x hx _=>?_,by simp,by simp,?_⟩
  .simp only[ZR,Yg,ZJ]at hx
   subst hx;simp
  simp only[ZR,Zce,Loc.low];exact hB
 refine⟨fun x hx _=>?_,by simp,by simp,?_⟩
 .simp only[ZR,Yg]at hx
  cases hx
 simp only[ZR,Zce];exact hB
variable {W w₀ w w' wl w₁:Zb}
variable {Kr Kl gv lv sv x9 MH Lx Ly K0 K1 Qj Q_ cJ TY Tt Tu Tv Tx Ty Tz v u:Zf}
variable {tm:Bool}
variable {cs:List ZM}
def dK {pb s:Nat}{buf:Array Zf}(hS:∀a:Addr,a.block=n+4->¬Shun (.cell a))(hB:n+4<B)(hB':n+3<B)(hc:W.cell? ⟨n+4,0,none⟩=some (.chan (some (n+3))))(ho:W.heap[n+3]?=some (.chan 2 buf false s r tm))(Az:n+4<W.heap.size):
  Goes Zc true Zct (DE (EvL Shun B)) (fun g w=>g=Kc (TJ n gv lv sv x9 MH Lx Ly K0 K1 Kr (.tuple #[]) (Du W.heap.size) Ze (.chan (some (n+3))) (.chan (some (n+3))) Ze Ze Ze Ze Ze Ze Ze Ze) cs/\∃d,w=((W.setChan (n+3) 2 buf true s r tm).alloc (.cells #[.slice none 0 0,.slice none 0 0] 130)).at d) 20
   (G ((base 25).at ⟨TM n gv lv sv x9 MH Lx Ly K0 K1 Kr (.tuple #[]),[]⟩ (.inRegion tF []:: [.code FU])) cs) W:=by
 simp only[TM,Du,FU,Eb,Dt,DI,BC,zK,Zw]
 l_c Zg
 l_c Zn
 l_reg
 i_opw (hS _ rfl)
 l_in
 rename_i dd;refine zx rfl rfl (by decide) (fun K hK=>?_);have dL:=fun(d:Nat) (es:Array Z9)=>events_close_open (P:=Zc) (w:=W.at d) (es:=es) #[116] 0 (r:=n+3) ho;have hrn:=fun(d:Nat)=>run_close_open (P:=Zc) (w:=W.at d) #[116] 0 (r:=n+3) ho
 go_simp
 refine hK _ ((W.setChan (n+3) 2 buf true s r tm).at dd) ⟨fun e he=>?_,?_⟩
 .have hm:=zO he
  simp[go_sem, *]at hm;rcases hm with rfl|rfl
  .exact gV _ _ hB'
  exact gV _ _ hB'
 clear hK K dL hrn
 l_c Zg
 l_c Zn
 l_reg
 i_opw (fun h=>h)
 l_c Zg
 have hz:(W.setChan (n+3) 2 buf true s r tm).heap.size=W.heap.size:=size_setChan _ _ _ _ _ _ _ _;have NP:((W.setChan (n+3) 2 buf true s r tm).alloc (.cells #[.slice none 0 0,.slice none 0 0] 130)).cell? ⟨n+4,0,none⟩=some (.chan (some (n+3))):=by
  refine(zn (w:=W) (a:=⟨n+4,0,none⟩) ?_).trans hc;rw[zD _ _ _ (by rw[hz];exact Az)];exact Zk (by show n+3≠n+4;omega)
 rw[hz];clear hc ho
 l_c Zn
 l_c Zn
 l_reg
 i_opw (hS _ rfl)
 l_c Zg
 l_c Zbq
 l_c stepG_loop
 l_c Zn
 l_reg
 refine ZT (fun w₁ BO=>?_);obtain⟨d,hd⟩:=BO;subst hd;simp only[alloc_at,setCell_at,at_at];refine⟨?_,_,rfl⟩;simp[Kc,TJ,Du,PE,k13,Lz,JK,JL,Ma,Kk,GQ,FU,Eb,Dt,DI,BC,zK]
end Go.Proofs.Fit
set_option linter.unusedSimpArgs false
namespace Go.Proofs.Fit
open Go Go.Conc Go.ConcX Go.RowKit Go.Conc.Lib Go.ConcX.Gen
def jY (P:Zo)(w:Zb)(es:Array Z9)(a:Addr)(m:Mode)(b:Option Addr)(l c:Nat):(store a (.slice b l c) m).events P w es=Yv P w es a (.slice b l c) m:=events_store P w es a _ m rfl
def UU (a:Addr)(w:Zb)(es:Array Z9)(k:Int)(hk:k=0\/k=1):(Zb9 130 (.pointer (some a)) (.int .i64 k)).events Zc w es=es:=by
 unfold Zb9;rcases hk with rfl|rfl<;>simp[go_sem,Zbz]
def LA (T:Array Zf)(cs:List ZM):Zi:=G ((base 25).at ⟨T,[]⟩ (.inRegion PE [1]::k13)) cs
variable {Shun:Loc->Prop}
variable {c1 pb k Wg B n r K c b ln lc lo hi:Nat}
variable {W w₀ w w' wl w₁:Zb}
variable {Kr Kl gv lv sv x9 MH Lx Ly K0 K1 Qj Q_ cJ TY Tt Tu Tv Tx Ty Tz v u:Zf}
variable {cs:List ZM}
def dM {va:Option Addr}{vn vc:Nat}{old:Zf}(hk:k=0\/k=1)(hS:∀a:Addr,a.block=K\/W.heap.size<=a.block->¬Shun (.cell a))(hB:W.heap.size<B)(hK:K<W.heap.size)(hc:W.cell? ⟨K,k,none⟩=some old)(hf:W.frozen? ⟨K,k,none⟩=false):
  Goes Zc true Zct (DE (EvL Shun B)) (fun g w=>g=Kc (TJ n gv lv sv x9 MH Lx Ly K0 K1 Kr Kl (Du K) (Du W.heap.size) Q_ cJ (.tuple #[.agg #[.int .i64 k,.slice va vn vc],.bool true]) (.bool true) (.agg #[.int .i64 k,.slice va vn vc]) (Du W.heap.size) (.int .i64 k) (.pointer (some ⟨W.heap.size,1,none⟩)) (.slice va vn vc) (.pointer (some ⟨K,k,none⟩))) cs/\∃d,w=((W.alloc (.cells #[.int .i64 k,.slice va vn vc] 129)).setCell ⟨K,k,none⟩ (.slice va vn vc)).at d) 30
   (LA (TJ n gv lv sv x9 MH Lx Ly K0 K1 Kr Kl (Du K) Qj Q_ cJ (.tuple #[.agg #[.int .i64 k,.slice va vn vc],.bool true]) TY Tt Tu Tv Tx Ty Tz) cs) W:=by
 have NP:∀o,(W.alloc o).cell? ⟨K,k,none⟩=some old:=fun o=>(zn (w:=W) (a:=⟨K,k,none⟩) (zD _ _ _ hK)).trans hc;have MK:∀o,(W.alloc o).frozen? ⟨K,k,none⟩=false:=fun o=>(ZdX (w:=W) (a:=⟨K,k,none⟩) (zD _ _ _ hK)).trans hf;clear hc hf;simp only[LA,TJ,Du,PE,k13,Lz,JK,JL,Ma,Kk,GQ,FU,Eb,Dt,DI,BC,zK,Zw];rcases hk with rfl|rfl
 all_goals
  have lW:=jY Zc;have jZ:=fun a w es=>UU a w es 0 (.inl rfl);have he3:=fun a w es=>UU a w es 1 (.inr rfl)
  l_op
  l_c Zg
  l_c Zn
  l_cond true
  l_c ZU
  l_c Zbq
  l_c Zn
  l_reg
  l_op
  i_opw (fun h=>h)
  l_in
  refine zx rfl rfl (by decide) (fun K' hK'=>?_)
  go_simp
  refine hK' _ _ ⟨fun e he=>?_,?_⟩
  .have hm:=zO he
   simp[go_sem,Yv, *]at hm;rcases hm with rfl|rfl
   .exact YJ _ _ (hS _ (.inr (Zj _))) (by show W.heap.size<B;omega)
   exact YJ _ _ (hS _ (.inr (Zj _))) (by show W.heap.size<B;omega)
  clear hK' K'
  l_c Zg
  l_reg
  l_op
  i_opw (hS _ (by simp))
  l_op
  i_opw (hS _ (by simp))
  l_op
  i_opw (hS _ (.inl rfl))
  l_c Zg
  l_c stepG_inBlock
  l_c stepG_inLoop
  l_c Zn
  l_reg
  refine ZT (fun w₁ BO=>?_);obtain⟨d,hd⟩:=BO;subst hd;simp only[alloc_at,setCell_at,at_at];refine⟨?_,_,rfl⟩;simp[Kc,Du,PE,k13,Lz,JK,JL,Ma,Kk,GQ,FU,Eb,Dt,DI,BC,zK]
end Go.Proofs.Fit
set_option linter.unusedSimpArgs false
namespace Go.Proofs.Fit
open Go Go.Conc Go.ConcX Go.RowKit Go.Conc.Lib Go.ConcX.Gen
def afU:(Tryz.f61.name== "runtime.NumGoroutine")=false:=by kernel_rfl
def oQ:Array Oper:=match GQ JL with| .region _ ops _=>ops|_=> #[]
def aP (T:Array Zf)(rest:List Nat):ZM:=(base 25).at ⟨T,[]⟩ (.inRegion oQ rest:: [.code .ret])
def TK (n:Nat)(gv lv sv x9 MH Lx Ly K0 K1 Kr Kl jX Qj Q_ cJ oP TY Tt Tu Tv Tx Ty Tz x30 x31:Zf):Array Zf:=
 #[gv,lv,sv,Du n,Du (n+1),Du (n+2),.slice none 0 0,Du (n+4),Du (n+5),x9,jX,Qj,.chan (some (n+3)),MH,Lx,Ly,K0,K1,Kr,Kl,Q_,cJ,oP,TY,Tt,Tu,Tv,Tx,Ty,Tz,x30,x31]
def Wi (K:Nat)(w:Zb):(ZaI 130 (.pointer (some ⟨K,0,none⟩)) none none none).run Zc w=.ok (.slice (some ⟨K,0,none⟩) 2 2) w:=by
 unfold ZaI Zbf;simp[go_sem,Zbz,Zcu]
def Wj (K:Nat)(w:Zb)(es:Array Z9):(ZaI 130 (.pointer (some ⟨K,0,none⟩)) none none none).events Zc w es=es:=by
 unfold ZaI Zbf;simp[go_sem,Zbz]
variable {Shun:Loc->Prop}
variable {c1 pb k Wg B n r K c b ln lc lo hi:Nat}
variable {W w₀ w w' wl w₁:Zb}
variable {Kr Kl gv lv sv x9 MH Lx Ly K0 K1 Qj Q_ cJ TY Tt Tu Tv Tx Ty Tz v u:Zf}
variable {cs:List ZM}
def j0 {z:Zf}:
  Goes Zc true Zct (DE (EvL Shun B)) (fun g w=>g=G (Zq Zc 61 #[.slice (some ⟨K,0,none⟩) 2 2] .normal) (aP (TK n gv lv sv x9 MH Lx Ly K0 K1 Kr Kl (Du K) Qj Q_ cJ (.tuple #[z,.bool false]) (.bool false) Tt Tu Tv Tx Ty Tz (.slice (some ⟨K,0,none⟩) 2 2) Ze) [1,2]::cs)/\∃d,w=W.at d) 20
   (LA (TJ n gv lv sv x9 MH Lx Ly K0 K1 Kr Kl (Du K) Qj Q_ cJ (.tuple #[z,.bool false]) TY Tt Tu Tv Tx Ty Tz) cs) W:=by
 have h1:=Wi K;have h2:=Wj K;simp only[LA,TJ,Du,PE,k13,Lz,JK,JL,Ma,Kk,GQ,FU,Eb,Dt,DI,BC,zK,Zw]
 l_op
 l_c Zg
 l_c Zn
 l_cond false
 l_in
 refine goes_exit rfl ?_;refine⟨by u_nil,?_⟩
 l_c Zn
 l_reg
 l_op
 l_call Tryz.func61 afU Tryz.f61
 refine ZT (fun w₁ BO=>?_);obtain⟨d,hd⟩:=BO;subst hd;simp only[alloc_at,setCell_at,at_at];refine⟨?_,_,rfl⟩;have he:Zq Zc 61 #[.slice (some ⟨K,0,none⟩) 2 2] .normal=(base 61).at ⟨#[.slice (some ⟨K,0,none⟩) 2 2,Ze,Ze,Ze,Ze,Ze,Ze,Ze,Ze,Ze,Ze,Ze,Ze,Ze,Ze,Ze,Ze,Ze,Ze,Ze,Ze,Ze,Ze,Ze,Ze,Ze,Ze,Ze,Ze,Ze,Ze,Ze,Ze,Ze,Ze,Ze],[]⟩ [.code (Tryz.f61.body.getD .skip)]:=by
  simp[Zq,Frame.at,base,Tryz.func61,Tryz.f61]
 rw[he];simp[Tryz.f61,aP,TK,Du,oQ,JL,Ma,Kk,GQ,FU,Eb,Dt,DI,BC,zK]
def oR {jX oP x30 x31:Zf}{f':ZM}:
  Goes Zc true Zct (DE (EvL Shun B)) (fun g w=>g=G (f'.finish v) cs/\∃d,w=W.at d) 10
   (G ((aP (TK n gv lv sv x9 MH Lx Ly K0 K1 Kr Kl jX Qj Q_ cJ oP TY Tt Tu Tv Tx Ty Tz x30 x31) [1,2]).finish v) (f'::cs)) W:=by
 simp only[aP,TK,Du,oQ,JL,Ma,Kk,GQ,FU,Eb,Dt,DI,BC,zK,Zw];rw[Frame.finish_at]
 walk_nrm
 l_op
 l_c Zg
 l_c z8
 refine Goes.step rfl (fun w₁ BO=>?_);obtain⟨dd,Pv⟩:=BO;subst Pv;rw[stepG_leave (v:=v) (fn:=zK) rfl rfl Tryz.func25 (results_tmp Tryz.results25 _ _ _) (ZdW Tryz.results25 _ _)];simp only[goes_go];refine⟨by u_nil,?_⟩;refine ZT (fun w₁ BO=>?_);obtain⟨d,hd⟩:=BO;subst hd;exact⟨rfl,d,rfl⟩
end Go.Proofs.Fit
namespace Go.FA
open Go Go.Conc
open Go.ConcN (sumTo upd sumTo_upd upd_ne upd_same Deaf_still)
section
variable {P:Zo}{Shun:Loc->Prop}{B:Nat}{a:Zi}
structure Lone (P:Zo)(Shun:Loc->Prop)(B:Nat)(a:Zi)(gs:Array Zi)(t:YZ)(q:Nat->Nat):Prop where
 main:gs[0]?=some a
 old:Leavers P t gs q
 past:Past Shun B t
def PF (By:a.status=.running):∀(M:Nat) (gs:Array Zi) (w:Zb) (sl:Option (Nat×Nat)) (t:YZ) (q:Nat->Nat),sumTo gs.size q<=M->Lone P Shun B a gs t q->
  ∃(N:Nat) (gs':Array Zi) (d:Nat) (I7:Option (Nat×Nat)) (t':YZ) (q':Nat->Nat) (Hf:Nat) (DQ:Option (Nat×Nat)),
   ZaE P N (Yj gs w sl) t=(.next (Yj gs' (w.at d) I7),t')/\Lone P Shun B a gs' t' q'/\stepT P (Yj gs' (w.at d) I7)=runT P (Yj gs' (w.at Hf) DQ) 0:=by
 intro M
 induction M with
 |zero=>?_
 |succ M ih=>?_
 all_goals
  intro gs w sl t q hM hX;obtain⟨h0,hL,hP⟩:=hX;have yY:∀g∈gs,awake g:=by
   intro g hg;obtain⟨i,hi,rfl⟩:=ZbL.1 hg;rcases zQ i with rfl|Fy
   .have:gs[0]=a:=by simpa[Zx hi]using h0
    rw[this];exact awake_of (.inl By)
   exact awake_of ((hL.old i _ Fy (Zx hi)).status.elim .inl fun x=>.inr (.inr x))
  obtain⟨i,g,d,I7,hi,hg,B_⟩:=crowd_pick (P:=P) (w:=w) (sl:=sl) yY ⟨0,a,h0,By⟩;rcases zQ i with rfl|Fy;exact⟨0,gs,w.drawn,sl,t,q,d,I7,rfl,⟨h0,hL,hP⟩,B_⟩
 .exfalso
  have Az:i<gs.size:=(Za.1 hi).1;have hq:=hL.old i g Fy hi;have:=sumTo_upd q 0 id Az;simp only[id]at this;have h1:(sumTo gs.size fun x=>q x)=sumTo gs.size q:=rfl;rw[h1]at this;have:q i=0:=by omega
  rw[this]at hq;rw[hq.1]at hg;cases hg
 have hq:=hL.old i g Fy hi;have hi0:(i==0)=false:=by simp;omega
 have Az:i<gs.size:=(Za.1 hi).1;cases nM:q i with
 |zero=>rw[nM]at hq;rw[hq.1]at hg;cases hg
 |succ k=>
  rw[nM]at hq;rcases hq with⟨hf,_⟩|⟨_,g',es,hm,nN,P_⟩
  .rw[hf]at hg;cases hg
  have FB:=Zb1 (P:=P) (sl:=I7) (i:=i) hi (by rw[hi0];exact nN (w.at d));have D':((gs.map (woken P g g' (w.at d))).setIfInBounds i g').size=gs.size:=by simp
  have aeu:sumTo gs.size (upd q i k)+(k+1)=sumTo gs.size q+k:=by
   have:=sumTo_upd q k id Az;simpa[nM]using this
  obtain⟨N,gs',d',nL,t',q',Hf,DQ,hr,hX',hs⟩:=ih ((gs.map (woken P g g' (w.at d))).setIfInBounds i g') (w.at d) I7 (t++ZK i g.frame.fn g.frame.place es) (upd q i k) (by rw[D'];omega)
   ⟨by
    have BL:i≠0:=by omega
    rw[Zk BL,zF,h0];simp[woken_run By],
   ⟨fun j x hj hx=>by
    by_cases LZ:i=j
    .subst LZ
     rw[ZV (by simpa using Az)]at hx;obtain rfl:=ZW hx;rw[upd_same,Deaf_own];exact P_
    .rw[Zk LZ,zF]at hx
     obtain⟨y,hy,rfl⟩:=zc.1 hx;have hqj:=hL.old j y hj hy;rw[woken_quitsD hqj,upd_ne q k (Za0 LZ),Y0 t LZ _ (fun op hop=>by obtain⟨e,_,rfl⟩:=ZQ hop;rfl)];exact hqj,fun j hj=>by
    rw[Y0 t (g':=i) (by simp at hj;omega) _ (fun op hop=>by obtain⟨e,_,rfl⟩:=ZQ hop;rfl)];exact hL.above j (by simpa using hj)⟩,hP.mute (by omega) hm⟩
  exact⟨N+1,gs',d',nL,t',q',Hf,DQ,by simp only[ZaE,B_,FB];exact hr,hX',hs⟩
variable {gs:Array Zi}
variable {t:YZ}
variable {q:Nat->Nat}
def Lone.app {u:YZ}{a':Zi}(h:Lone P Shun B a gs t q)(hg:∀op∈u,op.g=0)(hn:∀op∈u,op.act.touch?=none)(hl:∀op∈u,op.act.low B)(hd:∀op∈u,op.act≠ .mark .disable/\op.act≠ .mark .enable):
  Lone P Shun B a' (gs.setIfInBounds 0 a') (t++u) q:=by
 have Az:0<gs.size:=(Za.1 h.main).1;refine⟨by simp[Az],⟨fun j x hj hx=>?_,fun j hj=>?_⟩,h.past.app0 hg (fun op hop b hb=>by rw[hn op hop]at hb;cases hb) (Deaf_still t 0 u hd) hl⟩
 .rw[Zk (by omega)]at hx
  rw[Deaf_still t j u hd];exact h.old.old j x hj hx
 rw[Deaf_still t j u hd];exact h.old.above j (by simpa using hj)
def Lone.oS (h:Lone P Shun B a gs t q)(c:Nat)(send:Bool):partners (gs.setIfInBounds 0 ph) c send=[]:=by
 refine Go.Conc.partners_nil fun j g hj=>?_;rcases getElem?_stand gs 0 j g hj with⟨_,rfl⟩|⟨BL,hg⟩
 .exact offersAt_ph _ _
 refine offersAt_of_not_blocked ?_ _ _;rcases(h.old.old j g (by omega) hg).status with hs|hs<;>rw[hs]<;>simp
section
variable {gs:Array Zi}{w:Zb}{sl:Option (Nat×Nat)}{t:YZ}{q:Nat->Nat}{O2:Zi}{c cap s r:Nat}{buf:Array Zf}{closed tm:Bool}{z:Zf}
def aQ (By:a.status=.running)(hX:Lone P Shun B a gs t q)(hs:∀d,za P true a (w.at d)=.comm O2 #[rcase c z] true (.recv true) (w.at d) #[])(hc:w.heap[c]?=some (.chan cap buf closed s r tm))(hb:0<buf.size)(hB:c<B):
  ∃N gs' d I7 t' q',ZaE P N (Yj gs w sl) t=(.next (Yj gs' ((w.setChan c cap (buf.extract 1 buf.size) closed s (r+1) tm).at d) I7),t')/\Lone P Shun B (YU O2 (.tuple #[buf.getD 0 Ze,.bool true])) gs' t' q':=by
 obtain⟨N,CQ,aat,CU,Ea,GJ,Hf,DQ,hr,Gn,B_⟩:=PF By _ gs w sl t q (Zj _) hX;have hT:=crowd_recv_buf (P:=P) (w:=w.at Hf) (w₁:=w.at Hf) (sl:=DQ) (i:=0) Gn.main (hs Hf) (show(w.at Hf).heap[c]?=_ from hc) hb (Gn.oS c true);rw[finishComm_recv]at hT;refine⟨N+1,_,Hf,DQ,_,GJ,?_,Gn.app (a':=YU O2 (recvd true (buf.getD 0 Ze) true)) (u:=ZK 0 a.frame.fn a.frame.place #[]++ #[{g:=0,fn:=O2.frame.fn,pos:=O2.frame.place,act:=.recv c r cap}, {g:=0,fn:=O2.frame.fn,pos:=O2.frame.place,act:=.recvDone c r}]) ?_ ?_ ?_ ?_⟩
 .rw[runNT_add _ _ _ _ _ _ hr]
  simp only[ZaE,B_,hT]
  rfl
 all_goals
  intro op hop;simp[ZK]at hop;rcases hop with rfl|rfl
 all_goals first
  |rfl
  |exact hB
  |simp
def O3 (By:a.status=.running)(hX:Lone P Shun B a gs t q)(hs:∀d,za P true a (w.at d)=.comm O2 #[rcase c z] true (.recv true) (w.at d) #[])(hc:w.heap[c]?=some (.chan cap #[] true s r tm))(hB:c<B):
  ∃N gs' d I7 t' q',ZaE P N (Yj gs w sl) t=(.next (Yj gs' (w.at d) I7),t')/\Lone P Shun B (YU O2 (.tuple #[z,.bool false])) gs' t' q':=by
 obtain⟨N,CQ,aat,CU,Ea,GJ,Hf,DQ,hr,Gn,B_⟩:=PF By _ gs w sl t q (Zj _) hX;have hT:=crowd_recv_closed (P:=P) (w:=w.at Hf) (w₁:=w.at Hf) (sl:=DQ) (i:=0) Gn.main (hs Hf) (show(w.at Hf).heap[c]?=_ from hc) (Gn.oS c true);rw[finishComm_recv]at hT;refine⟨N+1,_,Hf,DQ,_,GJ,?_,Gn.app (a':=YU O2 (recvd true z false)) (u:=ZK 0 a.frame.fn a.frame.place #[]++ #[{g:=0,fn:=O2.frame.fn,pos:=O2.frame.place,act:=.recvClosed c}]) ?_ ?_ ?_ ?_⟩
 .rw[runNT_add _ _ _ _ _ _ hr]
  simp only[ZaE,B_,hT]
 all_goals
  intro op hop;simp[ZK]at hop;subst hop
 all_goals first
  |rfl
  |exact hB
  |simp
variable {c1 pb k Wg n K b ln lc lo hi:Nat}
def Cf {D:Zb->Zb->Array Z9->Prop}{St:Zi->Zb->Prop}(hD:∀w w' es,D w w' es->∀e∈es,EvL Shun B e)(hX:Lone P Shun B a gs t q)(hG:Goes P true Zct D St n a w):
  ∃N gs' a' w' I7 t' q',ZaE P N (Yj gs w sl) t=(.next (Yj gs' w' I7),t')/\St a' w'/\Lone P Shun B a' gs' t' q':=by
 obtain⟨N,gs',a',w',I7,t',q',h1,h2,h3,h4,h5,h6⟩:=walk_beside (P:=P) hD _ n gs a w sl t q (Zj _) hX.main hX.old hX.past hG;exact⟨N,gs',a',w',I7,t',q',h1,h4,h3,h5,h6⟩
end
end
end Go.FA
namespace Go.Proofs.Fit
open Go Go.Conc Go.FA Go.RowKit
variable {W w₀ w w' wl w₁:Zb}
variable {p:Addr}
variable {Kr Kl gv lv sv x9 MH Lx Ly K0 K1 Qj Q_ cJ TY Tt Tu Tv Tx Ty Tz v u:Zf}
def Sp (h:w.cell? p=some v):∃c e f,w.heap[p.block]?=some (.cells c e f):=by
 unfold zy at h;cases ho:w.heap[p.block]? with
 |none=>rw[ho]at h;cases h
 |some o=>
  rw[ho]at h;cases o with
  |cells c e f=>exact⟨c,e,f,rfl⟩
  |_=>cases h
def Cr.back (h:Cr w w')(hc:w'.cell? p=some v):w.cell? p=some v:=by
 obtain⟨c,e,f,hb⟩:=Sp hc;have G1:=(h.same _ _ _ _).1 hb;rw[<-hc];unfold zy;rw[hb,G1]
def wW (b:Nat)(w:Zb)(err aR:Zf):Prop:=
 (err=.nilIface\/∃n:Int,err=.iface 152 (.agg #[.int .i64 n]))/\∃t n,aR=.iface 154 (.pointer (some ⟨t,0,none⟩))/\t<b/\w.heap[t]?=some (.cells #[.int .i64 n] 152 (0,0))/\0<b/\w.cell? ⟨0,0,none⟩=some (.iface 195 (.agg #[.pointer (some ⟨1,137,none⟩)]))
def PX (x:List zk)(w:Zb):Prop:=
 (∃gc la ln lc sv b rows fit y,x= {v:=Wd #[.agg gc,.slice la ln lc,sv,MD b],recovered:=false}::y/\ME b w gc la ln lc sv rows fit)\/
 (∃err aR b y,x= {v:=Wd #[err,aR,MD b],recovered:=false}::y/\wW b w err aR)
def PX.blind:C_ PX:=fun x w t h=>by
 rcases h with⟨gc,la,ln,lc,sv,b,rows,fit,y,e,h⟩|⟨err,aR,b,y,e,h⟩
 .exact .inl ⟨gc,la,ln,lc,sv,b,rows,fit,y,e,h.Ar fun _ _ _ h=>h⟩
 exact .inr ⟨err,aR,b,y,e,h⟩
variable {y:List zk}
def Mb {Q:Zo}{x:List zk}(h:(C5 Q).raise x=(C5 Q).raise y):x=y:=by
 have:=congrArg Frame.mode h;simpa[C5,ZaV]using this
section
variable {B:H9}{fn:Func}{Post:Zf->Zb->Prop}{ρ:Ren}{f f':ZM}{cs cs':List ZM}{w:Zb}
variable {P:Zo}
variable {gc a gc':Array Zf}
def Sr (hl:B.lcs=[C5 Lp])(Kg:B.K.seg=false)(hb:C_ Post)(E:Env Lp P ρ)(hS:Gh Lp P B ρ (f::cs) (f'::cs'))(hw:∃w',WR ρ w w'){k:ZaQ}(hM:Cv Lp B true (Ez Lp B fn Post PX) (AU (Zq Lp k a .normal) (f::cs)) w)
 {X:Zf} (hc:Calls Lp k a (tp w fun _ _=>0) fun e w'=>e=.panicked [{v:=X,recovered:=false}]/\YH w.heap.size (tp w fun _ _=>0) w'):
  ∃w₂ y,PX ({v:=X,recovered:=false}::y) w₂/\ET w.heap.size w₂ w/\∀t c e f,t<w.heap.size->w₂.heap[t]?=some (.cells c e f)->w.heap[t]?=some (.cells c e f):=by
 have K:Dg Lp B true (Ez Lp B fn Post PX):=I5 hl hb PX.blind;have G:=KO (P':=Lp) (fn:=fn) (Post:=Post) (PostX:=PX) hl;have hcs:cs≠ []:=by
  have:=hS.deep;rw[hl]at this;intro e;rw[e]at this;simp at this
 have OJ:Calls Lp k a (tp w fun _ _=>0) (gr (fun _ _=>False) fun x w'=>x=[{v:=X,recovered:=false}]/\YH w.heap.size (tp w fun _ _=>0) w'):=hc.mono fun e w' ⟨he,hb⟩=>by rw[he];exact⟨rfl,hb⟩
 rcases R4 G hcs (hM.Ds K.blind _) OJ with⟨_,_,hF,_⟩|⟨x,w₁,⟨rfl,GK⟩,hp⟩
 .exact hF.elim
 obtain⟨w',hw⟩:=hw;have hD:DW ρ w₁:=(hw.dw).Ar (fun b b' hb=>(hw.lt hb).1) (fun b hb=>GK.block b hb);obtain⟨w₂,y,afV,B_⟩:=TQ K G.KJ hl Kg (nZ (P':=Lp)) E hS hM hp.Ds hD;rcases B_ with⟨ha,dL,_⟩|⟨x,hx,Ss⟩
 .exfalso
  rw[hl]at dL;cases dL
 have e: [{v:=X,recovered:=false}]++y=x:=Mb (congrArg (fun g:Zi=>g.frame) hx);subst e;refine⟨w₂,y,Ss,fun p v hp hc=>?_,fun t c e f ht hc=>?_⟩
 .have:=Cr.back afV hc
  rw[GK.cell hp]at this;exact this
 have:=(afV.same _ _ _ _).1 hc;rw[GK.block t ht]at this;exact this
end
def afW (t:Array Zf)(h:t.size=3):∃a0 a1 a2,t= #[a0,a1,a2]:=by
 obtain⟨l⟩:=t
 match l,h with
 | [a0,a1,a2],_=>exact⟨a0,a1,a2,rfl⟩
def NQ {c c':Array Zf}{y':List zk}(h:({v:=Wd c,recovered:=false}:zk)::y= {v:=Wd c',recovered:=false}::y'):c=c':=by
 have h1:=congrArg PanicEntry.v (zL h).1;unfold Wd at h1
 injection h1 with _ h2
 injection h2
variable {c1 pb k Wg B n r K c b ln lc lo hi:Nat}
def Su {b':Nat}(h:MD b=MD b'):b=b':=by
 unfold MD at h
 injection h with h1
 injection h1 with h2
 injection h2
section
variable {B:H9}{fn:Func}{Post:Zf->Zb->Prop}{ρ:Ren}{f f':ZM}{cs cs':List ZM}{w:Zb}
variable {P:Zo}
variable {gc a gc':Array Zf}
def aau (hl:B.lcs=[C5 Lp])(Kg:B.K.seg=false)(hb:C_ Post)(E:Env Lp P ρ)(hS:Gh Lp P B ρ (f::cs) (f'::cs'))(hw:∃w',WR ρ w w')(ha:a.size=3)(hM:Cv Lp B true (Ez Lp B fn Post PX) (AU (Zq Lp 25 a .normal) (f::cs)) w):
  ∃gc la ln lc sv rows fit,a= #[.agg gc,.slice la ln lc,sv]/\ME w.heap.size w gc la ln lc sv rows fit:=by
 obtain⟨g,l,s,rfl⟩:=afW a ha;have hc:=Sf g l s (tp w fun _ _=>0) (by show((((zJ 1 0 3).cut 0:Nat):Int)==1)=true;decide);obtain⟨w₂,y,Ss,lY,_⟩:=Sr hl Kg hb E hS hw hM hc;rcases Ss with⟨gc,la,ln,lc,sv,b,rows,fit,y',e,h⟩|⟨err,aR,b,y',e,_⟩
 .have e4:=congrArg ZbD (NQ e)
  obtain⟨e1,e5⟩:=zL e4;obtain⟨e2,e6⟩:=zL e5;obtain⟨e3,e7⟩:=zL e6;have e8:=Su (zL e7).1;have e9:(tp w fun _ _=>0).heap.size=w.heap.size:=rfl;rw[e9]at e8;subst e1 e2 e3 e8;refine⟨gc,la,ln,lc,s,rows,fit,rfl,⟨h.small,h.cap,h.gN,fun i hi=>?_,h.row,h.oF,fun i hi w₁ Nx=>h.fits i hi w₁ fun p v hp hc=>Nx p v hp (lY p v hp hc)⟩⟩;obtain⟨ad,h1,h2,h3⟩:=h.there i hi;exact⟨ad,h1,h2,lY _ _ (by rw[CF];exact h2) h3⟩
 exfalso;have:=congrArg Array.size (NQ e);simp at this
variable {la:Option Addr}
variable {fit:Nat->Bool}
def gW (hl:B.lcs=[C5 Lp])(hb:C_ Post)(Kb:B.lcs.length<(f::cs).length){rows:Nat->Zf}(H:ME w.heap.size w gc la ln lc sv rows fit)
 (hM:Cv Lp B true (Ez Lp B fn Post PX) (AU (Zq Lp 25 #[.agg gc,.slice la ln lc,sv] .normal) (f::cs)) w) (hk:(CX rows fit 0 ln).length<=k) (hkm:k<=maxLen):
  ∃v w₁,YH w.heap.size w w₁/\((CX rows fit 0 ln).length=0->v=.slice none 0 0)/\(0<(CX rows fit 0 ln).length->∃r,v=.slice (some ⟨r,0,none⟩) (CX rows fit 0 ln).length k/\w.heap.size<=r/\Room w₁ r k (CX rows fit 0 ln))/\
   CI Lp B true (AU (Zq Lp 25 #[.agg gc,.slice la ln lc,sv] .normal) (f::cs)) w (AU (f.finish v) cs) w₁:=by
 have K:Dg Lp B true (Ez Lp B fn Post PX):=I5 hl hb PX.blind;have G:=KO (P':=Lp) (fn:=fn) (Post:=Post) (PostX:=PX) hl
 let T:Tape:=fun _ q=>match q with| .appendCap _ _ e=>if e=3 then 1 else k - (CX rows fit 0 ln).length|_=>0
 have hc:=aJ (w:=tp w T) (H.Ar (w₁:=tp w T) fun _ _ _ h=>h) (by show((((zJ 1 0 3).cut 1:Nat):Int)==1)=false;decide);have OJ:Calls Lp 25 #[.agg gc,.slice la ln lc,sv] (tp w T) (gr (fun v w₁=>YH w.heap.size (tp w T) w₁/\((CX rows fit 0 ln).length=0->v=.slice none 0 0)/\(0<(CX rows fit 0 ln).length->∃r,v=.slice (some ⟨r,0,none⟩) (CX rows fit 0 ln).length k/\w.heap.size<=r/\Room w₁ r k (CX rows fit 0 ln))) fun _ _=>False):=hc.mono fun e w' h=>by
  obtain⟨w₁,h1,h2,h3⟩:=h;rcases zQ (CX rows fit 0 ln).length with hz|hp
  .obtain⟨rfl,rfl⟩:=h2 hz
   exact⟨h1,fun _=>rfl,fun h=>absurd h (by omega)⟩
  obtain⟨rfl,rfl⟩:=h3 hp;have ht:w₁.tape=T:=h1.tape;have hg:grownCap w₁ (CX rows fit 0 ln).length 0 22=k:=by
   unfold grownCap;rw[ht];show(CX rows fit 0 ln).length+(k - (CX rows fit 0 ln).length) % (2^63 - (CX rows fit 0 ln).length)=k;have IX:maxLen=9223372036854775807:=rfl;rw[Nat.mod_eq_of_lt (by omega)];omega
  rw[hg];refine⟨(h1.drew).alloc h1.size _,fun h=>absurd h (by omega),fun _=>⟨w₁.heap.size,rfl,h1.size,hk,?_⟩⟩;have e:=heap_alloc_new w₁.drew (.cells ((CX rows fit 0 ln).toArray++Zt #[.slice none 0 0] (k - (CX rows fit 0 ln).length)) 22);rw[<-IM];exact e
 obtain⟨v,w₁,⟨h1,h2,h3⟩,hp⟩:=Es G Lp.func104 rfl Kb (hM.Ds K.blind T) OJ;exact⟨v,tp w₁ w.tape,⟨h1.os,rfl,h1.output,h1.size,h1.block⟩,h2,h3,(hp w.tape).Ds⟩
end
end Go.Proofs.Fit
namespace Go.Proofs.Fit
open Go Go.Conc Go.FA Go.Pair Go.RowKit
open Go.ConcN (WgLive)
variable {ρ σ:Ren}
variable {W w₀ w w' wl w₁:Zb}
variable {Kr Kl gv lv sv x9 MH Lx Ly K0 K1 Qj Q_ cJ TY Tt Tu Tv Tx Ty Tz v u:Zf}
def WR.wX (h:WR ρ w w'){a a':Addr}(ha:AR ρ a a')(hv:w.cell? a=some v):∃v',w'.cell? a'=some v'/\VR ρ v v':=by
 obtain⟨Xd,h2⟩:=h.jv;obtain⟨b,c⟩:=ha;obtain⟨o,o',p1,p2,p3⟩:=h.obj _ _ b;obtain⟨oo,oo',q1,q2,q3⟩:=h2.obj _ _ b;unfold zy at*;rw[p1]at hv;rw[p2];cases p3 with
 | @cells x x' e f f' hx hf=>
  dsimp only at hv⊢;rw[c.1,c.2];split at hv
  .cases hv
  .rw[if_neg ‹_›]
   exact hx.get hv
 |_=>cases hv
variable {e:Zs}
def j1 {c:Array Zf}:Cw (EJ w (.cells c e (0,c.size))) w.heap.size:=by
 refine⟨e,c.size,?_,fun off ho=>?_⟩
 .unfold Yn
  rw[Io]
 unfold Yo;rw[Io];simp;omega
variable {c1 pb k Wg B n r K c b ln lc lo hi:Nat}
def dN {o:Obj}(h:Cw w b\/∃q,Quiet q/\w.heap[b]?=some q):Cw (EJ w o) b\/∃q,Quiet q/\(EJ w o).heap[b]?=some q:=by
 rcases h with h|⟨q,h1,h2⟩
 .exact .inl (ah h)
 exact .inr ⟨q,h1,by rw[Il w o (Za.1 h2).1];exact h2⟩
def tH (h:ρ.P5 r c):(ρ.ext r c h) r=some c:=if_pos rfl
def Wk (h:ρ.P5 r c){d:Nat}(hb:(ρ.ext r c h) b=some d):ρ b=some d\/(b=r/\d=c):=by
 have h':(if b=r then some c else ρ b)=some d:=hb;split at h'
 .cases h';exact .inr ⟨‹_›,rfl⟩
 exact .inl h'
variable {gc a gc':Array Zf}
def NS (h:WR ρ wl w₀)(hr:wl.heap.size=r)(alx:∀b,ρ b≠some c)(hlr:ρ.ok.low<r)(hlc:ρ.ok.low<c){a':Array Zf}{f:Nat×Nat}(hc:w₀.heap[c]?=some (.cells a' e f))(hf:f.2<=f.1)(ha:BS ρ a a')
 (R7:∀b d,ρ b=some d->Cw wl b\/∃o,Quiet o/\wl.heap[b]?=some o):
  ∃(ρ1:Ren) (wY:Zb),WR ρ1 wY w₀/\wY.heap.size=r+1/\(∀b,b<r->wY.heap[b]?=wl.heap[b]?)/\wY.heap[r]?=some (.cells a e (0,a.size))/\ρ.le ρ1/\ρ1 r=some c/\(∀b d,ρ1 b=some d->ρ b=some d\/(b=r/\d=c))/\
   ∀b d,ρ1 b=some d->Cw wY b\/∃o,Quiet o/\wY.heap[b]?=some o:=by
 subst hr;have f1:ρ.P5 wl.heap.size c:=⟨alx,hlr,hlc⟩;refine⟨ρ.ext _ _ f1,EJ wl (.cells a e (0,a.size)),h.push f1 hc (.cells _ (ha.mono (VP h f1)) (.inr (.inl hf))),VO _ _,fun b hb=>Il _ _ hb,Io _ _,VP h f1,tH f1,fun b d hb=>Wk f1 hb,fun b d hb=>?_⟩;rcases Wk f1 hb with hb|⟨rfl,rfl⟩
 .exact dN (R7 b d hb)
 exact .inl j1
structure wZ (ρ:Ren)(w wl:Zb)(UW:Ren)(gc:Array Zf)(la:Option Addr)(ln lc:Nat)(sv:Zf)(k n pb s0:Nat):Prop where
 size:wl.heap.size=s0+4/\s0=w.heap.size
 old:∀b:Nat,b<w.heap.size->wl.heap[b]?=(ag w).heap[b]?
 hl:wl.heap[s0]?=some (.cells #[.slice la ln lc] 33 (0,1))
 hp:wl.heap[s0+1]?=some (.cells #[.int .i64 k] 3 (0,1))
 hg:wl.heap[s0+2]?=some (.cells gc 62 (0,gc.size))
 hs:wl.heap[s0+3]?=some (.cells #[sv] 25 (0,1))
 sub:∀b c,ρ b=some c->UW b=some c
 ok:UW.ok=okW
 good:UW.good=Bh Zc okW BU false
 sp:UW.sp=fun _=>false
 nl:UW s0=some (n+1)
 np:UW (s0+1)=some pb
 ng:UW (s0+2)=some n
 ns:UW (s0+3)=some (n+2)
 only:∀b c,UW b=some c->ρ b=some c\/c=n+1\/c=pb\/c=n\/c=n+2
 lock:∀b c,UW b=some c->Cw wl b\/∃o,Quiet o/\wl.heap[b]?=some o
variable {la:Option Addr}
def aS (Jw:ρ.ok=ND)(hw:WR ρ w w'){cR:Option Addr}{sv':Zf}(NM:BS ρ gc gc')(wa:VR ρ (.slice la ln lc) (.slice cR ln lc))(hsv:VR ρ sv sv')(hn:w'.heap.size<=n)(hR:∀b,(∃a,ρ a=some b)->w₀.heap[b]?=w'.heap[b]?)(Xk:w₀.os=w'.os)(h0:∃f,w₀.heap[n]?=some (.cells gc' 62 f)/\f.2<=f.1)(h1:∃f,w₀.heap[n+1]?=some (.cells #[.slice cR ln lc] 33 f)/\f.2<=f.1)
 (h2:∃f,w₀.heap[n+2]?=some (.cells #[sv'] 25 f)/\f.2<=f.1) (hpb:w₀.heap[pb]?=some (.cells #[.int .i64 k] 3 (0,0))) (hpn:n+2<pb):
  ∃wl UW,WR UW wl w₀/\wZ ρ w wl UW gc la ln lc sv k n pb w.heap.size:=by
 have Jc:=hw.lt ρ.base;have Xc:okW.low=ρ.ok.low:=by rw[Jw];rfl
 let dO:=ρ.with okW (Bh Zc okW BU false) (fun _=>false) Xc
 have hw0:WR dO (ag w) w':=WR.R6 (fun f hf=>by rw[Jw]at hf;exact hf) hw;have aly:WR dO (ag w) w₀:=⟨fun b c hb=>by
  obtain⟨o,o',p1,p2,p3⟩:=hw0.obj b c hb;exact⟨o,o',p1,by rw[hR c ⟨b,hb⟩];exact p2,p3⟩,Xk.trans hw0.os⟩
 have tI:ρ.sub dO:=R5 (ρ:=ρ) (good:=Bh Zc okW BU false) (sp:=fun _=>false) (hl:=Xc) (fun f hf=>by rw[Jw]at hf;exact hf);have img:∀b c,dO b=some c->c<n:=fun b c hb=>Zl (hw.lt hb).2 hn;have isz:(ag w).heap.size=w.heap.size:=nT w;have afY:dO.ok.low=ρ.ok.low:=Xc;have afZ:∀b d,dO b=some d->Cw (ag w) b\/∃o,Quiet o/\(ag w).heap[b]?=some o:=fun b d hb=>nU (ρ:=ρ) hw hb;have alz:∀b c,ρ b=some c->dO b=some c:=tI.map;have ag0:∀b c,dO b=some c->ρ b=some c:=fun b c h=>h;have aaw:dO.ok=okW/\dO.good=Bh Zc okW BU false/\dO.sp=fun _=>false:=⟨rfl,rfl,rfl⟩;have alA:=wa.sub tI;have alB:=BS.sub tI NM;have alC:=hsv.sub tI;generalize dO=dO at*;obtain⟨fl,Ka,Tq⟩:=h1;obtain⟨fg,GM,hfg⟩:=h0;obtain⟨fs,DX,hfs⟩:=h2;have Jv:∀x:Nat,dO.ok.low<w.heap.size+x:=fun x=>by rw[afY];omega
 have Qa:dO.ok.low<n:=by rw[afY];omega
 obtain⟨ρ1,wY,w1,z1,alD,at1,le1,alF,inv1,ag1⟩:=NS (a:= #[.slice la ln lc]) aly isz (c:=n+1) (fun b hb=>by have:=img _ _ hb;omega) (Jv 0) (by omega) Ka Tq (Bz.single alA) afZ;have i1:∀b c,ρ1 b=some c->c<n\/c=n+1:=fun b c hb=>(inv1 b c hb).elim (fun h=>.inl (img _ _ h)) fun h=>.inr h.2;obtain⟨ρ2,wl2,w2,z2,ag2,at2,le2,alG,inv2,ag3⟩:=NS (a:= #[.int .i64 k]) w1 z1 (c:=pb) (fun b hb=>by have:=i1 _ _ hb;omega) (by rw[le1.2.1];exact Jv 1) (by rw[le1.2.1];omega) hpb (Zj _) (Bz.single (.int _ _)) ag1;have i2:∀b c,ρ2 b=some c->c<n\/c=n+1\/c=pb:=fun b c hb=>(inv2 b c hb).elim (fun h=>(i1 _ _ h).imp id .inl) fun h=>.inr (.inr h.2);have tJ:=Ren.le_trans le1 le2;obtain⟨ρ3,wl3,w3,z3,aay,at3,le3,alI,ag4,ag5⟩:=NS (a:=gc) w2 z2 (c:=n) (fun b hb=>by have:=i2 _ _ hb;omega) (by rw[tJ.2.1];exact Jv 2) (by rw[tJ.2.1];omega) GM hfg (alB.mono tJ) ag3;have i3:∀b c,ρ3 b=some c->c<n\/c=n+1\/c=pb\/c=n:=fun b c hb=>(ag4 b c hb).elim (fun h=>(i2 _ _ h).imp id (Or.imp id .inl)) fun h=>.inr (.inr (.inr h.2));have tK:=Ren.le_trans tJ le3;obtain⟨UW,wl4,w4,z4,tL,at4,le4,alJ,alK,ag6⟩:=NS (a:= #[sv]) w3 z3 (c:=n+2) (fun b hb=>by have:=i3 _ _ hb;omega) (by rw[tK.2.1];exact Jv 3) (by rw[tK.2.1];omega) DX hfs (Bz.single (alC.mono tK)) ag5;have tM:=Ren.le_trans tK le4;refine⟨wl4,UW,w4,⟨z4,rfl⟩,fun b hb=>?_,?_,?_,?_,at4,fun b c hb=>tM.1 _ _ (alz _ _ hb),?_,?_,?_,?_,?_,le4.1 _ _ alI,alJ,fun b c hb=>?_,ag6⟩
 .rw[tL b (by omega),aay b (by omega),ag2 b (by omega),alD b hb]
 .rw[tL _ (by omega),aay _ (by omega),ag2 _ (by omega)];exact at1
 .rw[tL _ (by omega),aay _ (by omega)];exact at2
 .rw[tL _ (by omega)];exact at3
 .rw[tM.2.1];exact aaw.1
 .rw[tM.2.2.1];exact aaw.2.1
 .rw[tM.2.2.2];exact aaw.2.2
 .exact le4.1 _ _ (le3.1 _ _ (le2.1 _ _ alF))
 .exact le4.1 _ _ (le3.1 _ _ alG)
 rcases alK b c hb with hb|⟨_,rfl⟩
 .rcases ag4 b c hb with hb|⟨_,rfl⟩
  .rcases inv2 b c hb with hb|⟨_,rfl⟩
   .rcases inv1 b c hb with hb|⟨_,rfl⟩
    .exact .inl (ag0 _ _ hb)
    exact .inr (.inl rfl)
   exact .inr (.inr (.inl rfl))
  exact .inr (.inr (.inr (.inl rfl)))
 exact .inr (.inr (.inr (.inr rfl)))
def gX (wl:Zb)(p lo hi:Nat)(rows:Nat->Zf)(fit:Nat->Bool):Zf->Zb->Prop:=fun v w=>
 ∃v6,v=.tuple #[v6,ptr p]/\Sh wl.heap.size lo hi rows fit v6 w/\∀b,b<wl.heap.size->w.heap[b]?=wl.heap[b]?
variable {fit:Nat->Bool}
def gX.blind {p:Nat}{rows:Nat->Zf}:C_ (gX wl p lo hi rows fit):=fun _ _ _ h=>h
def Wl (lo hi:Nat->Nat)(A7:Nat->Zf)(fit:Nat->Bool)(ρ:Ren)(k:Nat):Gk:=fun S v w=>
 ∃(σ:Ren) (wl:Zb) (a A:Option Addr) (c:Nat),v=.agg #[.int .i64 k,.slice A (CX A7 fit (lo k) (hi k)).length c]/\σ.ok=okW/\WR σ wl w/\(∀b c,σ b=some c->S c)/\(∀b c,ρ b=some c->σ b=some c)/\
  VR σ (.slice a (CX A7 fit (lo k) (hi k)).length c) (.slice A (CX A7 fit (lo k) (hi k)).length c)/\
  ∀j u,(CX A7 fit (lo k) (hi k))[j]?=some u->∃ad,A=some ad/\(∃b,σ b=some ad.block)/\w.cell? (ad.add j)=some u
variable {A7:Nat->Zf}
variable {S:Nat->Prop}
def Wl.rely {lo hi:Nat->Nat}(h:Wl lo hi A7 fit ρ k S v w)(r:D1 S w w₁):Wl lo hi A7 fit ρ k S v w₁:=by
 obtain⟨σ,wl,a,A,c,h1,h2,h3,h4,h5,h6,h7⟩:=h;refine⟨σ,wl,a,A,c,h1,h2,h3.rely (S:=fun c=>∃b,σ b=some c) (fun c=>Iff.rfl) ⟨fun c ⟨b,hb⟩=>r.same c (h4 b c hb),r.size,r.os⟩,h4,h5,h6,fun j u hu=>?_⟩;obtain⟨ad,e1,⟨b,e2⟩,e3⟩:=h7 j u hu;exact⟨ad,e1,⟨b,e2⟩,(zn (by rw[CF];exact r.same _ (h4 b _ e2))).trans e3⟩
def NT {rows:Nat->Zf}{j:Nat}(h:(CX rows fit lo hi)[j]?=some u):∃i,lo<=i/\i<hi/\u=rows i/\∀A7:Nat->Zf,(CX A7 fit lo hi)[j]?=some (A7 i):=by
 unfold CX at h;rw[YL]at h;obtain⟨i,hi1,rfl⟩:=zc.1 h;have hm:=(List.mem_filter.1 (Z3 hi1)).1;rw[List.mem_range']at hm;obtain⟨x,hx,rfl⟩:=hm;refine⟨_,by omega,by omega,rfl,fun A7=>?_⟩;unfold CX;rw[YL,hi1]
 rfl
def Q' (rows A7:Nat->Zf)(fit:Nat->Bool)(lo hi:Nat):(CX rows fit lo hi).length=(CX A7 fit lo hi).length:=by simp[CX]
def VR.Gp {a:Option Addr}{x:Zf}(h:VR σ (.slice a n c) x):∃A,x=.slice A n c/\Om σ a A:=by
 cases h with
 |slice _ _ h=>exact⟨_,rfl,h⟩
def WR.gY (h:WR ρ w w'){o:Nat}(hb:ρ b=some c)(hv:w.cell? ⟨b,o,none⟩=some v):∃v',w'.cell? ⟨c,o,none⟩=some v'/\VR ρ v v':=WR.wX h (a:=⟨b,o,none⟩) (a':=⟨c,o,none⟩) ⟨hb,rfl,rfl⟩ hv
def add0 (g j:Nat):(⟨g,0,none⟩:Addr).add j=⟨g,j,none⟩:=by
 unfold Zcu;by_cases h:j=0<;>simp[h]
section
variable {ρ UW:Ren}{w wl w₀:Zb}{gc:Array Zf}{la:Option Addr}{ln lc:Nat}{sv:Zf}{k n pb s0:Nat}{rows A7:Nat->Zf}{fit:Nat->Bool}{T₀:Nat->Prop}
def Wm (hw:WR UW wl w₀)(hb:wZ ρ w wl UW gc la ln lc sv k n pb s0)(hk:k<2)(H:ME w.heap.size w gc la ln lc sv rows fit)
 (hR:∀i,i<ln->VR ρ (rows i) (A7 i)) (hvo:∀f,ρ.ok f=true->okW f=true)
 (hT:∀b c,UW b=some c->T₀ c) (Az:∀b,T₀ b->b<w₀.heap.size) (w_:w₀.heap[pb]?=some (.cells #[.int .i64 k] 3 (0,0))) (hf:w₀.cell? ⟨n+4,0,none⟩=some (.chan (some (n+3)))) (hfT:T₀ (n+4))
 (hWg:¬T₀ (n+5)) (aa8:n+5<w₀.heap.size) (KW:WgLive 125 (n+5) w₀):
  Be Zc false 125 (n+5) T₀ (Pair.AtSend Zc 125 (n+5) (n+3) (Wl (fun k=>k*ln / 2) (fun k=>(k+1)*ln / 2) A7 fit ρ k)) T₀ (born Zc (call156 (n+5) (n+1) pb n (n+2) (n+4))) w₀:=by
 have ER:s0=w.heap.size:=hb.size.2;subst ER;have hcell:∀ {wl:Zb} {b:Nat} {x:Zf} {e:Zs} {f:Nat×Nat},wl.heap[b]?=some (.cells #[x] e f)->wl.cell? ⟨b,0,none⟩=some x:=fun h=>by unfold zy;rw[h];rfl
 have H':ME w.heap.size wl gc la ln lc sv rows fit:=H.Ar fun p v hp hc=>by
  rw[<-hc, <-nV w p];exact zn (hb.old _ hp)
 have Mc:=fun t=>alq (wl:=tp wl t) (b:=w.heap.size) (l:=w.heap.size) (p:=w.heap.size+1) (g:=w.heap.size+2) (s:=w.heap.size+3) (fz:=(0,gc.size)) (H'.Ar (w₁:=tp wl t) fun _ _ _ h=>h) (by show w.heap.size<=wl.heap.size;rw[hb.size.1];omega) k hk (hcell hb.hl) (hcell hb.hp) hb.hg (hcell hb.hs);have hW:=worker (Wg:=n+5) (Ch:=n+3) (f:=n+4) (T₀:=T₀) AP.twins (AP.afE hb.ok hb.good hb.sp) hb.sp AP.jv (by rw[hb.ok];exact aa9) hb.nl hb.np hb.ng hb.ns hw (Post:=gX wl (w.heap.size+1) (k*ln / 2) ((k+1)*ln / 2) rows fit) gX.blind
  (fun t=>(Mc t).mono fun e w' h=>by
   obtain⟨v,rfl,h1,h2⟩:=h;exact⟨v,rfl,h1,fun b hb=>h2.block b hb⟩)
  (fun v w' h b o _ ho=>by
   obtain⟨_,_,_,h3⟩:=h;rw[h3 b (Za.1 ho).1];exact ho)
  (fun v6 v2 w' h=>by
   obtain⟨v,e,h2,_⟩:=h;have e4:=congrArg ZbD (Zdt e);obtain⟨e1,e5⟩:=zL e4;obtain⟨e2,_⟩:=zL e5;subst e1 e2;rcases h2.2 with⟨rfl,_⟩|⟨g,cap,_,rfl,_⟩
   .exact⟨rfl,_,_,_,rfl⟩
   exact⟨rfl,_,_,_,rfl⟩)
  hb.lock hT Az (k:=k) (hcell w_) hf hfT hWg aa8 KW
 refine hW.imp fun S g w₁ h=>?_;obtain⟨h0,Bs,v,z,h1,h2,h3⟩:=h;refine⟨h0,Bs,v,z,h1,?_,h3⟩;obtain⟨σ,GR,v6,v2,v6',rfl,q1,q2,q3,q4,q5,q6,q7⟩:=h2;obtain⟨v,e,p2,p3⟩:=q6;have e4:=congrArg ZbD (Zdt e);obtain⟨e1,e5⟩:=zL e4;subst e1;clear e e4 e5;have sub:ρ.sub σ:=⟨fun b c Kf=>q1.1 b c (hb.sub b c Kf),fun f hf=>by rw[q1.2.1,hb.ok];exact hvo f hf⟩;have Jw:σ.ok=okW:=q1.2.1.trans hb.ok;have Ci:∀i,i<ln->VR σ (rows i) (A7 i):=fun i hi=>(hR i hi).sub sub;rcases p2.2 with⟨rfl,hz⟩|⟨g,cap,cur,rfl,tN,lZ,l9,hg4,hg5,hg6⟩
 .obtain⟨A,rfl,hA⟩:=VR.Gp q5
  rw[Q' rows A7]at hz;refine⟨σ,GR,none,A,0,?_,Jw,q4,q7,sub.map,?_,fun j u hu=>?_⟩
  .rw[hz]
  .rw[hz];exact q5
  dsimp only at hu;have:=(Zm.1 hu).1;omega
 obtain⟨A,rfl,hA⟩:=VR.Gp q5;cases A with
 |none=>exact hA.elim
 |some A=>
 obtain⟨oT,aT,xa⟩:=hA;obtain⟨ab,ao,aq⟩:=A;dsimp only at oT aT xa;subst aT xa;rw[Q' rows A7]at q5;refine⟨σ,GR,some ⟨g,0,none⟩,some ⟨ab,0,none⟩,cap,?_,Jw,q4,q7,sub.map,q5,fun j u hu=>?_⟩
 .rw[Q' rows A7]
 dsimp only at hu;obtain⟨i,i1,i2,rfl,i4⟩:=NT hu;have ag7:i<ln:=by
  have:(k+1)*ln / 2<=ln:=by
   have:k=0\/k=1:=by omega
   rcases this with rfl|rfl<;>omega
  omega
 have hj:(cur.toList.take ((CX rows fit (k*ln / 2) ((k+1)*ln / 2)).length*1))[j]?=some (rows i):=by rw[hg6];exact i4 rows
 have hjl:=(Zm.1 hj).1;rw[ZcV]at hjl;rw[Z2 (by omega)]at hj;have hc:GR.cell? ⟨g,j,none⟩=some (rows i):=by
  rw[cell_of_row GR g j cur 22 (0,0) lZ];rw[<-hj];simp
 obtain⟨x,x1,x2⟩:=WR.gY q4 oT hc;obtain⟨ra,rn,rc,hr⟩:=H.row i ag7;have hri:=Ci i ag7;rw[hr]at x2 hri;have e:=VR.OL x2 hri;subst e;exact⟨⟨ab,0,none⟩,rfl,⟨g,oT⟩,by rw[add0];exact x1⟩
end
end Go.Proofs.Fit
set_option linter.unusedSimpArgs false
namespace Go.Proofs.Fit
open Go Go.Conc Go.FA Go.RowKit
def Wn:Zf:=.agg #[.int .i64 0,.slice none 0 0]
section
variable {n:Nat}{gv lv sv x9 MH Lx Ly K0 K1 Kr Kl jX Qj Q_ oP TY Tt Tu Tv Tx Ty Tz:Zf}{cs:List ZM}
def UX (w:Zb):za Zc true (Kc (TJ n gv lv sv x9 MH Lx Ly K0 K1 Kr Kl jX Qj Q_ (.chan (some (n+3))) oP TY Tt Tu Tv Tx Ty Tz) cs) w=
  .comm (Kc (TJ n gv lv sv x9 MH Lx Ly K0 K1 Kr Kl jX Qj Q_ (.chan (some (n+3))) oP TY Tt Tu Tv Tx Ty Tz) cs) #[rcase (n+3) Wn] true (.recv true) w #[]:=by
 unfold Kc;simp only[PE,k13,Lz,JK,JL,Ma,Kk,GQ,FU,Eb,Dt,DI,BC,zK,Zw];rw[stepG_comm (w':=w) (cases:= #[rcase (n+3) Wn]) (blocking:=true) (shape:=.recv true) rfl rfl (by decide) (by simp[go_sem,TJ,rcase,Wn,ZdI,Zcy])];simp[listed,go_sem,TJ,ZdI,Zcy,seen]
def PG (v:Zf):YU (Kc (TJ n gv lv sv x9 MH Lx Ly K0 K1 Kr Kl jX Qj Q_ (.chan (some (n+3))) oP TY Tt Tu Tv Tx Ty Tz) cs) v=
  LA (TJ n gv lv sv x9 MH Lx Ly K0 K1 Kr Kl jX Qj Q_ (.chan (some (n+3))) v TY Tt Tu Tv Tx Ty Tz) cs:=by
 unfold Kc LA;rw[UL];simp[PE,JK,Ma,Kk,GQ,FU,Eb,Dt,DI,BC,zK,TJ,Zck]
end
structure Drn (W0:Zb)(n K:Nat)(w:Zb)(buf:Array Zf)(a b:Zf)(sz:Nat):Prop where
 size:w.heap.size=sz/\K<sz
 old:∀c,c<K->c≠n+3->w.heap[c]?=W0.heap[c]?
 chan:∃s r tm,w.heap[n+3]?=some (.chan 2 buf true s r tm)
 kept:w.heap[K]?=some (.cells #[a,b] 130 (0,0))
 os:w.os=W0.os
 tape:w.tape=W0.tape
 output:w.output=W0.output
def tO (k:Nat)(v a b:Zf):Zf×Zf:=if k=0 then(v,b) else(a,v)
section
variable {Shun:Loc->Prop}{B n K k:Nat}{W0 W:Zb}{gv lv sv x9 MH Lx Ly K0 K1 Kr Kl Qj Q_ oP TY Tt Tu Tv Tx Ty Tz a b:Zf}{va:Option Addr}{vn vc sz:Nat}{buf:Array Zf}{cs:List ZM}{gs:Array Zi}{t:YZ}{q:Nat->Nat}{sl:Option (Nat×Nat)}
def LB (hX:Lone Zc Shun B (Kc (TJ n gv lv sv x9 MH Lx Ly K0 K1 Kr Kl (Du K) Qj Q_ (.chan (some (n+3))) oP TY Tt Tu Tv Tx Ty Tz) cs) gs t q)(hk:k=0\/k=1)
 (hS:∀p:Addr,K<=p.block->¬Shun (.cell p)) (hB:sz<B) (hn:n+3<K) (hD:Drn W0 n K W buf a b sz) (hb:buf[0]?=some (.agg #[.int .i64 k,.slice va vn vc])):
  ∃N gs' w' I7 t' q' y11 y22 y23 y24 y25 y26 y27 y28 y29,ZaE Zc N (Yj gs W sl) t=(.next (Yj gs' w' I7),t')/\Lone Zc Shun B (Kc (TJ n gv lv sv x9 MH Lx Ly K0 K1 Kr Kl (Du K) y11 Q_ (.chan (some (n+3))) y22 y23 y24 y25 y26 y27 y28 y29) cs) gs' t' q'/\
   Drn W0 n K w' (buf.extract 1 buf.size) (tO k (.slice va vn vc) a b).1 (tO k (.slice va vn vc) a b).2 (sz+1):=by
 obtain⟨s,r,tm,hc⟩:=hD.chan;have hbs:0<buf.size:=(Za.1 hb).1;have hbd:buf.getD 0 Ze=.agg #[.int .i64 k,.slice va vn vc]:=by rw[Yp,hb];rfl
 obtain⟨N,CQ,d,CU,Ea,GJ,hr,Gn⟩:=aQ (sl:=sl) (c:=n+3) rfl hX (fun d=>UX (W.at d)) hc hbs (by have:=hD.size;omega);rw[hbd,PG]at Gn;have LP:K≠n+3:=by omega
 have l_:((W.setChan (n+3) 2 (buf.extract 1 buf.size) true s (r+1) tm).at d).heap[K]?=some (.cells #[a,b] 130 (0,0)):=by
  rw[<-hD.kept];exact Zk (by omega)
 have hz:((W.setChan (n+3) 2 (buf.extract 1 buf.size) true s (r+1) tm).at d).heap.size=sz:=(size_setChan _ _ _ _ _ _ _ _).trans hD.size.1;have rJ:∀c,c≠n+3->((W.setChan (n+3) 2 (buf.extract 1 buf.size) true s (r+1) tm).at d).heap[c]?=W.heap[c]? :=fun c hc=>Zk (Za0 hc);have L6:((W.setChan (n+3) 2 (buf.extract 1 buf.size) true s (r+1) tm).at d).heap[n+3]?=some (.chan 2 (buf.extract 1 buf.size) true s (r+1) tm):=ZV (Za.1 hc).1;have Xk:((W.setChan (n+3) 2 (buf.extract 1 buf.size) true s (r+1) tm).at d).os=W0.os/\((W.setChan (n+3) 2 (buf.extract 1 buf.size) true s (r+1) tm).at d).tape=W0.tape/\((W.setChan (n+3) 2 (buf.extract 1 buf.size) true s (r+1) tm).at d).output=W0.output:=⟨hD.os,hD.tape,hD.output⟩;generalize (W.setChan (n+3) 2 (buf.extract 1 buf.size) true s (r+1) tm).at d=W1 at*;have hcell:∃old,W1.cell? ⟨K,k,none⟩=some old:=by
  rcases hk with rfl|rfl
  .exact⟨a,by unfold zy;rw[l_];rfl⟩
  exact⟨b,by unfold zy;rw[l_];rfl⟩
 obtain⟨old,hcell⟩:=hcell;have yB:W1.frozen? ⟨K,k,none⟩=false:=by unfold Yo;rw[l_];simp
 have D':=hD.size;obtain⟨Mt,I8,O2,w₂,DQ,Ic,TP,FC,⟨rfl,Hf,rfl⟩,K2⟩:=Cf (sl:=CU) (fun _ _ _ h=>h) Gn (dM (Shun:=Shun) (B:=B) (W:=W1) hk (fun p hp=>hS p (by rcases hp with hp|hp<;>omega)) (by omega) (by omega) hcell yB);refine⟨N+Mt,I8,_,DQ,Ic,TP,_,_,_,_,_,_,_,_,_,by rw[Go.FA.runNT_add _ _ _ _ _ _ hr];exact FC,K2,?_⟩;have hh:∀c,c<sz->c≠K->(((W1.alloc (.cells #[.int .i64 k,.slice va vn vc] 129)).setCell ⟨K,k,none⟩ (.slice va vn vc)).at Hf).heap[c]?=W1.heap[c]? :=fun c h1 h2=>by
  show((W1.alloc _).setCell _ _).heap[c]?=_;rw[Y4 _ _ _ _ h2,zD _ _ _ (by omega)]
 refine⟨⟨?_,by omega⟩,fun c h1 h2=>?_,⟨s,r+1,tm,?_⟩,?_,Xk.1,Xk.2.1,Xk.2.2⟩
 .show((W1.alloc _).setCell _ _).heap.size=_
  simp[Z8,hz]
 .rw[hh c (by omega) (by omega),rJ c h2,hD.old c h1 h2]
 .rw[hh _ (by omega) (by omega)];exact L6
 show((W1.alloc _).setCell _ _).heap[K]?=_;unfold Z8;have e:(W1.alloc (.cells #[.int .i64 k,.slice va vn vc] 129)).heap[K]?=some (.cells #[a,b] 130 (0,0)):=by rw[zD _ _ _ (by omega)];exact l_
 simp only[Y7,if_pos,e,Zdh];rcases hk with rfl|rfl<;>rfl
variable {c1 pb Wg r c ln lc lo hi:Nat}
variable {tm:Bool}
def drain {A0 A1:Option Addr}{n0 n1 c0:Nat}{ord:List Nat}{vals:Nat->Zf}(hX:Lone Zc Shun B (We n pb gv lv sv cs) gs t q)(jK:ord=[0,1]\/ord=[1,0])
 (Xf:vals 0=.agg #[.int .i64 0,.slice A0 n0 c0]) (me:vals 1=.agg #[.int .i64 1,.slice A1 n1 c1]) (lS:W.heap[n+3]?=some (.chan 2 (ord.map vals).toArray false 2 0 tm)) (hc:W.cell? ⟨n+4,0,none⟩=some (.chan (some (n+3))))
 (hS:∀p:Addr,p.block=n+4\/W.heap.size<=p.block->¬Shun (.cell p)) (hB:W.heap.size+3<=B):
  ∃N gs' w' I7 t' q' T,ZaE Zc N (Yj gs W sl) t=(.next (Yj gs' w' I7),t')/\Lone Zc Shun B (AU (Zq Zc 61 #[.slice (some ⟨W.heap.size,0,none⟩) 2 2] .normal) (aP T [1,2]::cs)) gs' t' q'/\
   (∃y9 y10 y11 y13 y14 y15 y16 y17 y18 y19 y20 y21 y22 y23 y24 y25 y26 y27 y28 y29 y30 y31,T=TK n gv lv sv y9 y13 y14 y15 y16 y17 y18 y19 y10 y11 y20 y21 y22 y23 y24 y25 y26 y27 y28 y29 y30 y31)/\
   Drn W n W.heap.size w' #[] (.slice A0 n0 c0) (.slice A1 n1 c1) (W.heap.size+3):=by
 have Az:n+4<W.heap.size:=ZH W _ hc;obtain⟨N,CQ,dp,w₁,CU,Ea,GJ,gZ,⟨rfl,aat,rfl⟩,Gn⟩:=Cf (sl:=sl) (fun _ _ _ h=>h) hX (dK (pb:=pb) (Shun:=Shun) (B:=B) (W:=W) (fun p hp=>hS p (.inl hp)) (by omega) (by omega) hc lS Az);have hz:((W.setChan (n+3) 2 (ord.map vals).toArray true 2 0 tm)).heap.size=W.heap.size:=size_setChan _ _ _ _ _ _ _ _;have hD:Drn W n W.heap.size (((W.setChan (n+3) 2 (ord.map vals).toArray true 2 0 tm).alloc (.cells #[.slice none 0 0,.slice none 0 0] 130)).at aat) (ord.map vals).toArray (.slice none 0 0) (.slice none 0 0) (W.heap.size+1):=by
  refine⟨⟨?_,by omega⟩,fun c h1 h2=>?_,⟨2,0,tm,?_⟩,?_,rfl,rfl,rfl⟩
  .show((W.setChan _ _ _ _ _ _ _).alloc _).heap.size=_
   simp[hz]
  .show((W.setChan _ _ _ _ _ _ _).alloc _).heap[c]?=_
   rw[zD _ _ _ (by rw[hz];exact h1)];exact Zk (Za0 h2)
  .show((W.setChan _ _ _ _ _ _ _).alloc _).heap[n+3]?=_
   rw[zD _ _ _ (by rw[hz];omega)];exact ZV (by omega)
  show((W.setChan _ _ _ _ _ _ _).alloc _).heap[W.heap.size]?=_;rw[<-hz];exact Zav
 have By:∀ {N M:Nat} {x y z:Machine} {t Ea Ic:YZ},ZaE Zc N x t=(.next y,Ea)->ZaE Zc M y Ea=(.next z,Ic)->ZaE Zc (N+M) x t=(.next z,Ic):=fun h k=>by rw[Go.FA.runNT_add _ _ _ _ _ _ h];exact k
 have tj:∀p:Addr,W.heap.size<=p.block->¬Shun (.cell p):=fun p hp=>hS p (.inr hp);have RV:∀ {N:Nat} {I8:Array Zi} {w₂:Zb} {DQ:Option (Nat×Nat)} {Ic:YZ} {TP:Nat->Nat} {z9 z13 z14 z15 z16 z17 z18 z19 z11 z20 z22 z23 z24 z25 z26 z27 z28 z29:Zf},ZaE Zc N (Yj gs W sl) t=(.next (Yj I8 w₂ DQ),Ic)->
   Lone Zc Shun B (Kc (TJ n gv lv sv z9 z13 z14 z15 z16 z17 z18 z19 (Du W.heap.size) z11 z20 (.chan (some (n+3))) z22 z23 z24 z25 z26 z27 z28 z29) cs) I8 Ic TP->Drn W n W.heap.size w₂ #[] (.slice A0 n0 c0) (.slice A1 n1 c1) (W.heap.size+3)->
   ∃N gs' w' I7 t' q' T,ZaE Zc N (Yj gs W sl) t=(.next (Yj gs' w' I7),t')/\Lone Zc Shun B (AU (Zq Zc 61 #[.slice (some ⟨W.heap.size,0,none⟩) 2 2] .normal) (aP T [1,2]::cs)) gs' t' q'/\
   (∃y9 y10 y11 y13 y14 y15 y16 y17 y18 y19 y20 y21 y22 y23 y24 y25 y26 y27 y28 y29 y30 y31,T=TK n gv lv sv y9 y13 y14 y15 y16 y17 y18 y19 y10 y11 y20 y21 y22 y23 y24 y25 y26 y27 y28 y29 y30 y31)/\
   Drn W n W.heap.size w' #[] (.slice A0 n0 c0) (.slice A1 n1 c1) (W.heap.size+3):=by
  intro N I8 w₂ DQ Ic TP z9 z13 z14 z15 z16 z17 z18 z19 z11 z20 z22 z23 z24 z25 z26 z27 z28 z29 FC K2 Ik;obtain⟨s,r,tm,xc⟩:=Ik.chan;obtain⟨jy,oU,alM,aU,nQ,aaI,I1,UY⟩:=O3 (sl:=DQ) (c:=n+3) rfl K2 (fun d=>UX (w₂.at d)) xc (by omega);rw[PG]at UY;obtain⟨agm,XW,alN,KU,XY,nS,sV,RZ,⟨rfl,agn,rfl⟩,aV⟩:=Cf (sl:=aU) (fun _ _ _ h=>h) UY (j0 (Shun:=Shun) (B:=B) (W:=w₂.at alM));exact⟨_,XW,_,XY,nS,sV,_,By FC (By I1 RZ),aV,⟨_,_,_,_,_,_,_,_,_,_,_,_,_,_,_,_,_,_,_,_,_,_,rfl⟩,⟨Ik.size,Ik.old,⟨s,r,tm,xc⟩,Ik.kept,Ik.os,Ik.tape,Ik.output⟩⟩
 rcases jK with rfl|rfl
 .obtain⟨Mt,I8,w₂,DQ,Ic,TP,_,_,_,_,_,_,_,_,_,FC,K2,Ik⟩:=LB (sl:=CU) Gn (k:=0) (.inl rfl) tj (by omega) (by omega) hD (va:=A0) (vn:=n0) (vc:=c0) (by simp[Xf])
  obtain⟨jy,oU,DZ,aU,nQ,aaI,_,_,_,_,_,_,_,_,_,I1,UY,XV⟩:=LB (sl:=DQ) K2 (k:=1) (.inr rfl) tj (by omega) (by omega) Ik (va:=A1) (vn:=n1) (vc:=c1) (by simp[me]);exact RV (By gZ (By FC I1)) UY (by simpa[tO]using XV)
 obtain⟨Mt,I8,w₂,DQ,Ic,TP,_,_,_,_,_,_,_,_,_,FC,K2,Ik⟩:=LB (sl:=CU) Gn (k:=1) (.inr rfl) tj (by omega) (by omega) hD (va:=A1) (vn:=n1) (vc:=c1) (by simp[me]);obtain⟨jy,oU,DZ,aU,nQ,aaI,_,_,_,_,_,_,_,_,_,I1,UY,XV⟩:=LB (sl:=DQ) K2 (k:=0) (.inl rfl) tj (by omega) (by omega) Ik (va:=A0) (vn:=n0) (vc:=c0) (by simp[Xf]);exact RV (By gZ (By FC I1)) UY (by simpa[tO]using XV)
end
end Go.Proofs.Fit
namespace Go.Proofs.Fit
open Go Go.Conc Go.FA Go.Pair Go.RowKit
open Go.ConcN (WgLive)
open Go.ConcR (WgAt)
def oV (a0 a1 a2:Zf)(cs:List ZM):AU (Zq Zc 25 #[a0,a1,a2] .normal) cs=G ((base 25).at ⟨#[a0,a1,a2,Ze,Ze,Ze,Ze,Ze,Ze,Ze,Ze,Ze,Ze,Ze,Ze,Ze,Ze,Ze,Ze,Ze,Ze,Ze,Ze,Ze,Ze,Ze,Ze,Ze,Ze,Ze,Ze,Ze],[]⟩ [.code BC]) cs:=by
 simp[AU,G,Zq,Frame.at,base,BC,Tryz.func25,zK]
def Sx (S:Nat->Prop)(n:Nat):Nat->Prop:=fun b=>S b\/b=n\/b=n+1\/b=n+2\/b=n+4
structure Laid (w' W:Zb)(n:Nat)(gc':Array Zf)(lv sv:Zf):Prop where
 size:W.heap.size=n+6/\w'.heap.size=n
 old:∀b,b<n->W.heap[b]?=w'.heap[b]?
 g:W.heap[n]?=some (.cells gc' 62 (0,0))
 l:W.heap[n+1]?=some (.cells #[lv] 33 (0,0))
 s:W.heap[n+2]?=some (.cells #[sv] 25 (0,0))
 ch:W.heap[n+3]?=some (.chan 2 #[] false 0 0 false)
 chb:W.heap[n+4]?=some (.cells #[.chan (some (n+3))] 116 (0,0))
 wg:W.heap[n+5]?=some (.cells #[.int .u64 0,.int .u32 0] 125 (0,0))
 os:W.os=w'.os
 tape:W.tape=w'.tape
 output:W.output=w'.output
def tP (w':Zb)(gc':Array Zf)(lv sv:Zf):Laid w' (W1 w' gc' lv sv) w'.heap.size gc' lv sv:=by
 have hs:∀(w:Zb) (o:Obj),(w.alloc o).heap.size=w.heap.size+1:=fun w o=>by simp
 have hn:∀(w:Zb) (o:Obj),(w.alloc o).heap[w.heap.size]?=some o:=fun w o=>Zav;have ho:∀(w:Zb) (o:Obj) (b:Nat),b<w.heap.size->(w.alloc o).heap[b]?=w.heap[b]? :=fun w o b h=>zD _ _ _ h;unfold W1;refine⟨⟨by simp only[hs],rfl⟩,fun b hb=>?_,?_,?_,?_,?_,?_,?_,rfl,rfl,rfl⟩
 .rw[ho _ _ _ (by simp only[hs];omega),ho _ _ _ (by simp only[hs];omega),ho _ _ _ (by simp only[hs];omega),ho _ _ _ (by simp only[hs];omega),ho _ _ _ (by simp only[hs];omega),ho _ _ _ (by omega)]
 .rw[ho _ _ _ (by simp only[hs];omega),ho _ _ _ (by simp only[hs];omega),ho _ _ _ (by simp only[hs];omega),ho _ _ _ (by simp only[hs];omega),ho _ _ _ (by simp only[hs];omega)]
  exact hn _ _
 .rw[ho _ _ _ (by simp only[hs];omega),ho _ _ _ (by simp only[hs];omega),ho _ _ _ (by simp only[hs];omega),ho _ _ _ (by simp only[hs];omega)]
  have:=hn (w'.alloc (.cells gc' 62)) (.cells #[lv] 33);rwa[hs]at this
 .rw[ho _ _ _ (by simp only[hs];omega),ho _ _ _ (by simp only[hs];omega),ho _ _ _ (by simp only[hs];omega)]
  have:=hn ((w'.alloc (.cells gc' 62)).alloc (.cells #[lv] 33)) (.cells #[sv] 25);rwa[hs,hs]at this
 .rw[ho _ _ _ (by simp only[hs];omega),ho _ _ _ (by simp only[hs];omega)]
  have:=hn (((w'.alloc (.cells gc' 62)).alloc (.cells #[lv] 33)).alloc (.cells #[sv] 25)) (.chan 2 #[] false 0 0 false);rwa[hs,hs,hs]at this
 .rw[ho _ _ _ (by simp only[hs];omega)]
  have:=hn ((((w'.alloc (.cells gc' 62)).alloc (.cells #[lv] 33)).alloc (.cells #[sv] 25)).alloc (.chan 2 #[] false 0 0 false)) (.cells #[.chan (some (w'.heap.size+3))] 116);rwa[hs,hs,hs,hs]at this
 have:=hn (((((w'.alloc (.cells gc' 62)).alloc (.cells #[lv] 33)).alloc (.cells #[sv] 25)).alloc (.chan 2 #[] false 0 0 false)).alloc (.cells #[.chan (some (w'.heap.size+3))] 116)) (.cells #[.int .u64 0,.int .u32 0] 125);rwa[hs,hs,hs,hs,hs]at this
variable {W w₀ w w' wl w₁:Zb}
variable {c1 pb k Wg B n r K c b ln lc lo hi:Nat}
variable {gc a gc':Array Zf}
variable {Kr Kl gv lv sv x9 MH Lx Ly K0 K1 Qj Q_ cJ TY Tt Tu Tv Tx Ty Tz v u:Zf}
def Laid.at (h:Laid w' W n gc' lv sv)(d:Nat):Laid w' (W.at d) n gc' lv sv:=⟨h.size,h.old,h.g,h.l,h.s,h.ch,h.chb,h.wg,h.os,h.tape,h.output⟩
variable {A7:Nat->Zf}
variable {fit:Nat->Bool}
variable {ρ σ:Ren}
def tQ {lo hi:Nat->Nat}:I' 125 Wg (Wl lo hi A7 fit ρ):=fun _ _ _ _ _ h r=>h.rely r.base
abbrev TA (ln:Nat):Nat->Nat:=fun k=>k*ln / 2
abbrev PH (ln:Nat):Nat->Nat:=fun k=>(k+1)*ln / 2
section
variable {S:Nat->Prop}{ρ:Ren}{w w':Zb}{gs:Array Zi}{sl:Option (Nat×Nat)}{t:YZ}{q:Nat->Nat}{Shun:Loc->Prop}{gc gc':Array Zf}{la cR rO:Option Addr}{ln lc sn sc:Nat}{sv:Zf}{cs':List ZM}{rows A7:Nat->Zf}{fit:Nat->Bool}
def j4 (X:Ctx Zc S (AU (Zq Zc 25 #[.agg gc',.slice cR ln lc,.slice rO sn sc] .normal) cs') w' gs t q Shun)(hS:∀c,S c↔∃b,ρ b=some c)(Jw:ρ.ok=ND)(hw:WR ρ w w')
 (NM:BS ρ gc gc') (wa:VR ρ (.slice la ln lc) (.slice cR ln lc)) (hsv:VR ρ sv (.slice rO sn sc)) (H:ME w.heap.size w gc la ln lc sv rows fit) (hR:∀i,i<ln->VR ρ (rows i) (A7 i)):
  ∃N CQ W w₁ CU Ea,ZaE Zc N (Yj gs w' sl) t=(.next (Yj CQ w₁ CU),Ea)/\Laid w' W w'.heap.size gc' (.slice cR ln lc) (.slice rO sn sc)/\
   Joined Zc (w'.heap.size+3) (w'.heap.size+5) (Wl (TA ln) (PH ln) A7 fit ρ) Shun (gT w'.heap.size (.agg gc') (.slice cR ln lc) (.slice rO sn sc) cs') (Sx S w'.heap.size) (Sx S w'.heap.size) W CQ w₁ Ea:=by
 have E8:∀b,S b->b<w'.heap.size:=fun b hb=>(X.held b hb).1;have Sv:∀p:Addr,w'.heap.size<=p.block->¬Shun (.cell p):=fun p hp hs=>by
  obtain⟨a,e,h⟩:=X.XU _ hs;cases e;omega
 have hX:Lone Zc Shun (w'.heap.size+6) (AU (Zq Zc 25 #[.agg gc',.slice cR ln lc,.slice rO sn sc] .normal) cs') gs t q:=⟨X.main,X.old,X.past.mono (by omega)⟩;rw[oV]at hX;obtain⟨N,CQ,dp,W,CU,Ea,GJ,hr,⟨rfl,d,rfl⟩,Gn⟩:=Cf (sl:=sl) (fun _ _ _ h=>h) hX (oG (Shun:=Shun) Sv);have hL:=(tP w' gc' (.slice cR ln lc) (.slice rO sn sc)).at d;generalize (W1 w' gc' (.slice cR ln lc) (.slice rO sn sc)).at d=W at*;have D':=hL.size;generalize hn:w'.heap.size=n at*;have hSx:∀b,Sx S n b->b<n+6:=by
  rintro b (h|h|h|h|h)
  .have:=E8 b h;omega
  all_goals omega
 have tc:=aO (S:=Sx S n) (L:=Sx S n) (n:=n) (gv:=.agg gc') (lv:=.slice cR ln lc) (sv:=.slice rO sn sc) (cs:=cs') (Pay:=Wl (TA ln) (PH ln) A7 fit ρ) W ⟨0,0,hL.wg⟩ (by omega) (fun h=>by
   rcases h with h|h|h|h|h
   .have:=E8 _ h;omega
   all_goals omega) (fun b hb=>by have:=hSx b hb;omega) (fun b hb=>by have:=hSx b hb;omega)
  (fun k pb S' Xd hk tR Ts hS3 hS4 aaJ KW w_ hpb=>by
   have Qh:∀b,Sx S n b->Xd.heap[b]?=W.heap[b]? :=aaJ.same;obtain⟨wl,UW,h1,h2⟩:=aS (k:=k) (n:=n) (pb:=pb) (w₀:=Xd) Jw hw NM wa hsv (by omega) (fun b ⟨a,hb⟩=>by
     have G1:S b:=(hS b).2 ⟨a,hb⟩;rw[Qh b (.inl G1),hL.old b (E8 b G1)]) (aaJ.os.trans hL.os) ⟨(0,0),(Qh n (.inr (.inl rfl))).trans hL.g,Zj _⟩ ⟨(0,0),(Qh _ (.inr (.inr (.inl rfl)))).trans hL.l,Zj _⟩ ⟨(0,0),(Qh _ (.inr (.inr (.inr (.inl rfl))))).trans hL.s,Zj _⟩ w_ (by omega)
   refine Wm (T₀:=S') h1 h2 hk H hR (fun f hf=>by rw[Jw]at hf;exact hf) (fun b c Kf=>?_) hS4 w_ ?_ (tR _ (.inr (.inr (.inr (.inr rfl))))) (fun h=>?_) ?_ KW
   .rcases h2.only b c Kf with h|rfl|rfl|rfl|rfl
    .exact tR _ (.inl ((hS c).2 ⟨b,h⟩))
    .exact tR _ (.inr (.inr (.inl rfl)))
    .exact Ts
    .exact tR _ (.inr (.inl rfl))
    exact tR _ (.inr (.inr (.inr (.inl rfl))))
   .refine(zn (a:=⟨n+4,0,none⟩) (Qh _ (.inr (.inr (.inr (.inr rfl)))))).trans ?_
    unfold zy;rw[hL.chb];rfl
   .rcases hS3 _ h with h|h
    .rcases h with h|h|h|h|h
     .have:=E8 _ h;omega
     all_goals omega
    omega
   have:=aaJ.size;omega)
 obtain⟨Mt,I8,w₂,DQ,Ic,FC,hJ⟩:=dB (sl:=CU) (q:=GJ) (Shun:=Shun) tQ Sk TX aN Gn.main Gn.old (by rw[D'.1];exact Gn.past) (fun b hb=>⟨by have:=hSx b hb;omega,fun a ha hs=>by
   rcases hb with hb|hb
   .exact(X.held b hb).2 a ha hs
   .exact Sv a (by omega) hs⟩) (fun l hl=>by obtain⟨a,e,h⟩:=X.XU l hl;exact⟨a,e,by omega⟩) (fun h=>by
   rcases h with h|h|h|h|h
   .have:=E8 _ h;omega
   all_goals omega) (fun h=>by
   rcases h with h|h|h|h|h
   .have:=E8 _ h;omega
   all_goals omega) (by omega) hL.wg hL.ch (fun l ⟨a,e,h⟩ hs=>by subst e;exact Sv a (by omega) hs) (fun b hb=>by have:=hSx b hb;omega) tc
 exact⟨N+Mt,I8,W,w₂,DQ,Ic,by rw[Go.FA.runNT_add _ _ _ _ _ _ hr];exact FC,hL,hJ⟩
end
end Go.Proofs.Fit
namespace Go.Proofs.Fit
open Go Go.Conc Go.FA Go.Pair Go.RowKit
def g8 (wl:Zb)(xs:List Zf)(v:Zf)(w:Zb):Prop:=
 (∀b,b<wl.heap.size->w.heap[b]?=wl.heap[b]?)/\(xs.length=0->v=.slice none 0 0)/\(0<xs.length->∃r c,v=.slice (some ⟨r,0,none⟩) xs.length c/\wl.heap.size<=r/\c<=maxLen/\Room w r c xs)
variable {W w₀ w w' wl w₁:Zb}
def g8.blind {xs:List Zf}:C_ (g8 wl xs):=fun _ _ _ h=>h
variable {fit:Nat->Bool}
variable {c1 pb k Wg B n r K c b ln lc lo hi:Nat}
variable {Kr Kl gv lv sv x9 MH Lx Ly K0 K1 Qj Q_ cJ TY Tt Tu Tv Tx Ty Tz v u:Zf}
def Wo {rows:Nat->Zf}(h:u∈CX rows fit lo hi):∃i,lo<=i/\i<hi/\u=rows i:=by
 obtain⟨j,hj⟩:=List.getElem?_of_mem h;obtain⟨i,h1,h2,h3,_⟩:=NT hj;exact⟨i,h1,h2,h3⟩
section
variable {ρ:Ren}{w w' w₁ w₂:Zb}{n K ln:Nat}{rows A7:Nat->Zf}{fit:Nat->Bool}{S T0 T1:Nat->Prop}{A0 A1:Option Addr}{v0 v1:Zf}{n0 n1 c0 c1 sz:Nat}
def Sw (ρ rP rQ:Ren)(K:Nat):Nat->Prop:=fun c=>(∃b,ρ b=some c)\/(∃b,rP b=some c)\/(∃b,rQ b=some c)\/c=K
def dP (Jw:ρ.ok=ND)(hw:WR ρ w w')(UO:ln<=1000000)(Ci:∀i,i<ln->∃a n c,rows i=.slice a n c)(hR:∀i,i<ln->VR ρ (rows i) (A7 i))
 (Qu:∀b c,ρ b=some c->w₂.heap[c]?=w'.heap[c]?) (hKK:w₂.heap[K]?=some (.cells #[v0,v1] 130 (0,0)))
 (P0:Wl (TA ln) (PH ln) A7 fit ρ 0 T0 (.agg #[.int .i64 0,v0]) w₁) (aW:∀b,T0 b->w₂.heap[b]?=w₁.heap[b]?) (P1:Wl (TA ln) (PH ln) A7 fit ρ 1 T1 (.agg #[.int .i64 1,v1]) w₁) (Kd:∀b,T1 b->w₂.heap[b]?=w₁.heap[b]?) {c':ZM} {cs':List ZM}:
  ∃D:Nat->Prop,(∀b c,ρ b=some c->D c)/\(∀c,D c->c=K\/(∃b,ρ b=some c)\/T0 c\/T1 c)/\
   Xe Zc true D (fun S g w=>∃v',g=AU (c'.finish v') cs'/\((CX A7 fit 0 ln).length=0->v'=.slice none 0 0)/\
    (0<(CX A7 fit 0 ln).length->∃r k cs f,v'=.slice (some ⟨r,0,none⟩) (CX A7 fit 0 ln).length k/\(CX A7 fit 0 ln).length<=k/\w₂.heap.size<=r/\k<=maxLen/\S r/\w.heap[r]?=some (.cells cs 22 f)/\f.2<=f.1/\cs=(CX A7 fit 0 ln).toArray++Yu (k - (CX A7 fit 0 ln).length) TW)) D
    (AU (Zq Zc 61 #[.slice (some ⟨K,0,none⟩) 2 2] .normal) (c'::cs')) w₂:=by
 obtain⟨rP,wl0,a0,A0,c0,e0,k0,w0R,s0,i0,V0,C0⟩:=P0;obtain⟨rQ,wY,a1,A1,c1,e1,k1,w1R,s1,i1,V1,C1⟩:=P1;have f0:v0=.slice A0 (CX A7 fit (TA ln 0) (PH ln 0)).length c0:=by
  have:=congrArg ZbD (Value.agg.inj e0);exact(zL (zL this).2).1
 have f1:v1=.slice A1 (CX A7 fit (TA ln 1) (PH ln 1)).length c1:=by
  have:=congrArg ZbD (Value.agg.inj e1);exact(zL (zL this).2).1
 have hl:Sw ρ rP rQ K okW.low:=.inl ⟨_,by have:=ρ.base;rw[Jw]at this;exact this⟩
 let Xl:=Ren.VQ (Sw ρ rP rQ K) okW (Bh Zc okW BU false) (fun _=>false) hl
 have agp:ρ.Gi Xl:=OO (fun b c hb=>.inl ⟨b,hb⟩) (fun f hf=>by rw[Jw]at hf;exact hf);have on0:rP.Gi Xl:=OO (fun b c hb=>.inr (.inl ⟨b,hb⟩)) (fun f hf=>by rw[k0]at hf;exact hf);have on1:rQ.Gi Xl:=OO (fun b c hb=>.inr (.inr (.inl ⟨b,hb⟩))) (fun f hf=>by rw[k1]at hf;exact hf);have xd:VR Xl v0 v0:=by rw[f0];exact V0.Mv on0
 have xe:VR Xl v1 v1:=by rw[f1];exact V1.Mv on1
 have oW:∀i,i<ln->VR Xl (A7 i) (A7 i):=fun i hi=>by
  obtain⟨a,m,c,h⟩:=Ci i hi;have:=hR i hi;rw[h]at this;exact this.Mv agp
 have agq:∀i,i<ln->(A7 i).oneCell'=true:=fun i hi=>by
  obtain⟨a,m,c,h⟩:=Ci i hi;have:=hR i hi;rw[h]at this;obtain⟨A,hA,_⟩:=VR.Gp this;rw[hA];rfl
 have aaK:∀c,Sw ρ rP rQ K c->∃o,w₂.heap[c]?=some o/\OR Xl (Dm Xl o) o:=by
  rintro c (⟨b,hb⟩|⟨b,hb⟩|⟨b,hb⟩|rfl)
  .obtain⟨o,o',p1,p2,p3⟩:=hw.obj b c hb
   exact⟨o',(Qu b c hb).trans p2,p3.Gi agp⟩
  .obtain⟨o,o',p1,p2,p3⟩:=w0R.obj b c hb
   exact⟨o',(aW c (s0 b c hb)).trans p2,p3.Gi on0⟩
  .obtain⟨o,o',p1,p2,p3⟩:=w1R.obj b c hb
   exact⟨o',(Kd c (s1 b c hb)).trans p2,p3.Gi on1⟩
  refine⟨_,hKK,?_⟩;refine .cells 130 ⟨by simp,fun i v y h1 h2=>?_⟩ (Qz _ _);rw[zF,h2]at h1;cases h1;refine OM ?_
  match i,h2 with
  |0,h2=>cases h2;exact⟨_,xd⟩
  |1,h2=>cases h2;exact⟨_,xe⟩
 have hWC:WR Xl (snap Xl w₂) w₂:=nW aaK;have hKl:K<w₂.heap.size:=(Za.1 hKK).1;have mg:∀c,Sw ρ rP rQ K c->c<w₂.heap.size:=fun c hc=>by
  obtain⟨o,h,_⟩:=aaK c hc;exact(Za.1 h).1
 have q0:(snap Xl w₂).cell? ⟨K,0,none⟩=some (.slice A0 (CX A7 fit (TA ln 0) (PH ln 0)).length c0):=by
  rw[<-f0];exact I9 (by unfold zy;rw[hKK];rfl) xd
 have q1:(snap Xl w₂).cell? ⟨K,1,none⟩=some (.slice A1 (CX A7 fit (TA ln 1) (PH ln 1)).length c1):=by
  rw[<-f1];exact I9 (by unfold zy;rw[hKK];rfl) xe
 have r0:KZ (snap Xl w₂) A0 (CX A7 fit (TA ln 0) (PH ln 0)):=fun j u hu=>by
  obtain⟨ad,h1,⟨b,h2⟩,h3⟩:=C0 j u hu;obtain⟨i,i1,i2,rfl,_⟩:=NT hu;have hi:i<ln:=by simp only[PH]at i2;omega
  refine⟨ad,h1,by rw[Lr];exact mg _ (.inr (.inl ⟨b,h2⟩)),I9 ?_ (oW i hi)⟩;rw[<-h3];exact zn (by rw[CF];exact aW _ (s0 b _ h2))
 have r1:KZ (snap Xl w₂) A1 (CX A7 fit (TA ln 1) (PH ln 1)):=fun j u hu=>by
  obtain⟨ad,h1,⟨b,h2⟩,h3⟩:=C1 j u hu;obtain⟨i,i1,i2,rfl,_⟩:=NT hu;have hi:i<ln:=by simp only[PH]at i2;omega
  refine⟨ad,h1,by rw[Lr];exact mg _ (.inr (.inr (.inl ⟨b,h2⟩))),I9 ?_ (oW i hi)⟩;rw[<-h3];exact zn (by rw[CF];exact Kd _ (s1 b _ h2))
 have IP:CX A7 fit (TA ln 0) (PH ln 0)++CX A7 fit (TA ln 1) (PH ln 1)=CX A7 fit 0 ln:=by
  have e1:TA ln 0=0:=by simp[TA]
  have e2:PH ln 0=ln / 2:=by simp[PH]
  have e3:TA ln 1=ln / 2:=by simp[TA]
  have e4:PH ln 1=ln:=by simp only[PH];omega
  rw[e1,e2,e3,e4];exact dH (Zp _) (by omega)
 have Mc:=fun t=>als (wl:=tp (snap Xl w₂) t) (K:=K) q0 q1 r0 r1 (fun u hu=>by obtain⟨i,_,h,rfl⟩:=Wo hu;exact agq i (by simp only[PH]at h;omega)) (fun u hu=>by obtain⟨i,_,h,rfl⟩:=Wo hu;exact agq i (by simp only[PH]at h;omega)) (by
  have h1:=Dh (rows:=A7) (fit:=fit) (lo:=TA ln 0) (hi:=PH ln 0);have h2:=Dh (rows:=A7) (fit:=fit) (lo:=TA ln 1) (hi:=PH ln 1);simp only[TA,PH]at h1 h2;show(CX A7 fit (TA ln 0) (PH ln 0)).length+(CX A7 fit (TA ln 1) (PH ln 1)).length<=1000000;simp only[TA,PH];omega)
 rw[IP]at Mc;refine⟨Sw ρ rP rQ K,fun b c hb=>.inl ⟨b,hb⟩,?_,?_⟩
 .rintro c (h|⟨b,h⟩|⟨b,h⟩|h)
  .exact .inr (.inl h)
  .exact .inr (.inr (.inl (s0 b c h)))
  .exact .inr (.inr (.inr (s1 b c h)))
  exact .inl h
 have hDD:(fun c=>∃b,Xl b=some c)=Sw ρ rP rQ K:=by
  funext c
  apply propext;constructor
  .rintro⟨b,hb⟩
   obtain⟨h,rfl⟩:=Gj.1 hb;exact h
  exact fun h=>⟨c,Gj.2 ⟨h,rfl⟩⟩
 have hR:=nX AP.twins Nz (ρ:=Xl) (AP.afE rfl rfl rfl) rfl (f:=61) (show aF 61=true by decide) (a:= #[.slice (some ⟨K,0,none⟩) 2 2]) (a':= #[.slice (some ⟨K,0,none⟩) 2 2]) (Bz.single (.slice _ _ ⟨Gj.2 ⟨.inr (.inr (.inr rfl)),rfl⟩,rfl,rfl⟩)) hWC (c':=c') (cs':=cs') (Post:=g8 (snap Xl w₂) (CX A7 fit 0 ln)) g8.blind
  (fun t=>(Mc t).mono fun e w' h=>by
   obtain⟨h1,h2,h3⟩:=h;rcases zQ (CX A7 fit 0 ln).length with hz|hp
   .rw[h2 hz]
    exact⟨fun b hb=>h1.block b hb,fun _=>rfl,fun h=>absurd h (by omega)⟩
   obtain⟨r,c,rfl,g1,g2,g3⟩:=h3 hp;exact⟨fun b hb=>h1.block b hb,fun h=>absurd h (by omega),fun _=>⟨r,c,rfl,g1,g2,g3⟩⟩)
  (fun v w' h b o _ ho=>by rw[h.1 b (Za.1 ho).1];exact ho)
  (fun b c hb=>by
   obtain⟨h,rfl⟩:=Gj.1 hb;obtain⟨o,h1,h2⟩:=aaK b h;exact UE h1 h2) (S:=Sw ρ rP rQ K) (fun c=>by rw[<-hDD]) (m:=true)
 rw[hDD]at hR;refine hR.imp fun S g DZ h=>?_;obtain⟨σ,GR,v,v',rfl,⟨lO,VK,hp3⟩,hv,hle,rG,aaL,hS⟩:=h;refine⟨v',rfl,fun hz=>?_,fun hp=>?_⟩
 .rw[VK hz]at hv
  obtain⟨A,rfl,hA⟩:=VR.Gp hv;cases A with
  |none=>rfl
  |some A=>exact hA.elim
 obtain⟨r0,k,rfl,g1,g2,g3⟩:=hp3 hp;obtain⟨A,rfl,hA⟩:=VR.Gp hv;cases A with
 |none=>exact hA.elim
 |some A=>
 obtain⟨oT,aT,xa⟩:=hA;obtain⟨ab,ao,aq⟩:=A;dsimp only at oT aT xa;subst aT xa;rw[Lr]at g1;have DU:w₂.heap.size<=ab:=by
  rcases rG _ _ oT with h|⟨_,h⟩
  .obtain⟨hd,e⟩:=Gj.1 h
   have:=mg _ hd;omega
  exact h
 obtain⟨o,o',p1,p2,p3⟩:=aaL.obj _ _ oT;rw[g3.2]at p1;cases p1;cases p3 with
 | @cells _ cs e f f' hc hf=>
 refine⟨ab,k,cs,f',rfl,g3.1,DU,g2,(hS ab).2 ⟨r0,oT⟩,p2,?_,?_⟩
 .rcases hf with rfl|hf|⟨h1,h2⟩
  .exact Zj _
  .exact hf
  dsimp only at h2;omega
 refine Array.ext hc.1.symm fun i h1 h2=>?_;have hx:=hc.2 i _ _ (Zx h2) (Zx h1);have aX:i<k:=by
  have:=g3.1;simp at h2;omega
 rw[Array.getElem_append]at hx⊢;split at hx
 .next Az=>
  rw[dif_pos Az];have hm:(CX A7 fit 0 ln).toArray[i] ∈CX A7 fit 0 ln:=by simp
  obtain⟨j,_,hj,hr⟩:=Wo hm;rw[hr]at hx⊢;have DX:=(oW j hj).mono hle;obtain⟨a,m,c,h⟩:=Ci j hj;have hRj:=hR;have hrj:= ‹∀i,i<ln->VR ρ (rows i) (A7 i)› j hj;rw[h]at hrj;obtain⟨A,hA,_⟩:=VR.Gp hrj;rw[hA]at hx DX⊢;exact VR.OL hx DX
 next Az=>
 rw[dif_neg Az];rw[Array.getElem_replicate]at hx⊢;exact VR.OL hx (.slice _ _ trivial)
end
def Cw.same (h:Cw w b)(e:w₁.heap[b]?=w.heap[b]?):Cw w₁ b:=by
 obtain⟨t,n,h1,h2⟩:=h;refine⟨t,n,?_,fun off ho=>?_⟩
 .unfold Yn at*;rw[e];exact h1
 have:=h2 off ho;unfold Yo at*;rw[e];exact this
def KI.same {J:Nat->Obj->Prop}(h:KI J w b)(e:w₁.heap[b]?=w.heap[b]?):KI J w₁ b:=
 h.imp (fun h=>Cw.same h e) fun⟨o,h1,h2⟩=>⟨o,h1,e.trans h2⟩
def Sy (P' P:Zo)(B:H9)(J:Nat->Obj->Prop)(ρ₀:Ren)(n₀ n₀':Nat)(Lk S:Nat->Prop)(g:Zi)(w:Zb)(w':Zb)(gs:Array Zi)(sl:Option (Nat×Nat))(t:YZ):Prop:=
  ∃(N:Nat) (CQ:Array Zi) (CU:Option (Nat×Nat)) (Ea:YZ) (GJ:Nat->Nat) (Shun₁:Loc->Prop) (FO:Nat->Prop) (σ:Ren) (AH:Zi) (w₁:Zb) (C9:Zi) (w₁':Zb),
   ZaE P N (Yj gs w' sl) t=(.next (Yj CQ w₁' CU),Ea)/\CI P' B true g w AH w₁/\Nr P' P B J ρ₀ n₀ n₀' Lk FO σ AH w₁ C9 w₁'/\Ctx P FO C9 w₁' CQ Ea GJ Shun₁/\Ms S Lk w' w₁' FO
section
variable {B:H9}{fn:Func}{Post:Zf->Zb->Prop}{J:Nat->Obj->Prop}{ρ₀ ρ:Ren}{n₀ n₀':Nat}{Lk S:Nat->Prop}{f f':ZM}{cs cs':List ZM}{a a':Array Zf}{w w':Zb}{gs:Array Zi}{sl:Option (Nat×Nat)}{t:YZ}{q:Nat->Nat}{Shun:Loc->Prop}
variable {g:Zi}
variable {σ:Ren}
def ML {N:Nat}{CQ:Array Zi}{CU:Option (Nat×Nat)}{Ea:YZ}{GJ:Nat->Nat}{Shun₁:Loc->Prop}{g':Zi}{w₁':Zb}{v':Zf}(H:Nr Lp Zc B J ρ₀ n₀ n₀' Lk S ρ g w g' w')(hS:Gh Lp Zc B ρ (f::cs) (f'::cs'))(BL:f.todo≠ [])
 (hr:ZaE Zc N (Yj gs w' sl) t=(.next (Yj CQ w₁' CU),Ea)) (hp:CI Lp B true g w (AU (f.finish v) cs) w₁) (hb:∀b,b<w.heap.size->w₁.heap[b]?=w.heap[b]?) (Xk:w₁.os=w.os) (D':w.heap.size<=w₁.heap.size)
 (X:Lone Zc Shun₁ w₁'.heap.size (AU (f'.finish v') cs') CQ Ea GJ) (G1:∀b,b<w'.heap.size->w₁'.heap[b]?=w'.heap[b]?) (Sb:w'.heap.size<=w₁'.heap.size) (tS:w₁'.os=w'.os/\w₁'.tape=w'.tape/\w₁'.output=w'.output)
 (Jc:GZ Shun₁ w₁'.heap.size) (hle:ρ.le σ) (Bp:∀b c,σ b=some c->ρ b=some c\/(w.heap.size<=b/\w'.heap.size<=c/\c<w₁'.heap.size/\(∀p:Addr,p.block=c->¬Shun₁ (.cell p))/\∃o o',w₁.heap[b]?=some o/\w₁'.heap[c]?=some o'/\OR σ o o'))
 (g_:∀b,S b->∀p:Addr,p.block=b->¬Shun₁ (.cell p)) (hv:VR σ v v'):
  Sy Lp Zc B J ρ₀ n₀ n₀' Lk S g w w' gs sl t:=by
 have Az:∀b c,ρ b=some c->b<w.heap.size/\c<w'.heap.size:=fun b c h=>H.world.lt h;refine⟨N,CQ,CU,Ea,GJ,Shun₁,fun c=>∃b,σ b=some c,σ,AU (f.finish v) cs,w₁,AU (f'.finish v') cs',w₁',hr,hp,?_,?_,?_⟩
 .refine⟨H.env.mono hle,Ren.le_trans H.le hle,fun b c hb=>?_,⟨Zr H.size.1 D',Zr H.size.2 Sb⟩,.inl ⟨_,_,_,_,rfl,rfl,(hS.mono hle).top fun K h=>h.finish hv BL⟩,⟨fun b c Kf=>?_,?_⟩,fun c hc=>?_,fun c=>Iff.rfl⟩
  .rcases Bp b c hb with h|h
   .exact H.fresh b c h
   exact .inr ⟨Zr H.size.1 h.1,Zr H.size.2 h.2.1⟩
  .rcases Bp b c Kf with h|h
   .obtain⟨o,o',h1,h2,h3⟩:=H.world.obj b c h
    exact⟨o,o',(hb b (Az b c h).1).trans h1,(G1 c (Az b c h).2).trans h2,h3.mono hle⟩
   exact h.2.2.2.2
  .rw[tS.1,Xk];exact H.world.os
  obtain⟨b,h1,h2⟩:=H.lock c hc;exact⟨b,hle.1 _ _ h1,KI.same h2 (hb b (Az b c h1).1)⟩
 .refine⟨X.main,X.old,X.past,fun c ⟨b,hb⟩=>?_,Jc⟩
  rcases Bp b c hb with h|h
  .exact⟨Zl (Az b c h).2 Sb,g_ c ((H.holds c).2 ⟨b,h⟩)⟩
  exact⟨h.2.2.1,h.2.2.2.1⟩
 refine⟨Sb,fun b hb _=>G1 b hb,tS.1,tS.2.1,tS.2.2,fun c ⟨b,hb⟩=>?_⟩;rcases Bp b c hb with h|h
 .exact .inl ((H.holds c).2 ⟨b,h⟩)
 exact .inr h.2.1
def tT (hl:B.lcs=[C5 Lp])(Kg:B.K.seg=false)(oX:C_ Post)(ha:a.size=3)(xf:BS ρ a a')(Jw:ρ.ok=ND)(hS:Gh Lp Zc B ρ (f::cs) (f'::cs'))(BL:f.todo≠ [])
 (hM:Cv Lp B true (Ez Lp B fn Post PX) (AU (Zq Lp 25 a .normal) (f::cs)) w)
 (H:Nr Lp Zc B J ρ₀ n₀ n₀' Lk S ρ (AU (Zq Lp 25 a .normal) (f::cs)) w (AU (Zq Zc 25 a' .normal) (f'::cs')) w') (X:Ctx Zc S (AU (Zq Zc 25 a' .normal) (f'::cs')) w' gs t q Shun):
  Sy Lp Zc B J ρ₀ n₀ n₀' Lk S (AU (Zq Lp 25 a .normal) (f::cs)) w w' gs sl t:=by
 obtain⟨gc,la,ln,lc,sv,rows,fit,rfl,HP⟩:=aau hl Kg oX H.env hS ⟨w',H.world⟩ ha hM;obtain⟨y0,y1,y2,rfl⟩:=afW a' (xf.1.symm.trans rfl);have v0:VR ρ (.agg gc) y0:=xf.2 0 _ _ rfl rfl;have v1:VR ρ (.slice la ln lc) y1:=xf.2 1 _ _ rfl rfl;have v2:VR ρ sv y2:=xf.2 2 _ _ rfl rfl;obtain⟨gc',rfl,NM⟩:∃gc',y0=.agg gc'/\BS ρ gc gc':=by
  cases v0 with
  |agg h1 h2=>exact⟨_,rfl,h1,h2⟩
 obtain⟨cR,rfl,wa⟩:=VR.Gp v1;obtain⟨sa,sn,sc,hsv⟩:=HP.oF;have v2':=v2;rw[hsv]at v2';obtain⟨rO,rfl,_⟩:=VR.Gp v2';clear v2';have Sz:∀i,∃x,i<ln->VR ρ (rows i) x:=fun i=>by
  by_cases hi:i<ln
  .obtain⟨ad,rfl,h2,h3⟩:=HP.there i hi
   cases cR with
   |none=>exact wa.elim
   |some ad'=>
    obtain⟨x,_,hx⟩:=WR.wX H.world (AR.add wa i) h3;exact⟨x,fun _=>hx⟩
  exact⟨Ze,fun h=>absurd h hi⟩
 obtain⟨A7,hR⟩:=Classical.axiomOfChoice Sz;clear Sz;obtain⟨alP,CQ,W,w₁,CU,Ea,gZ,hL,hJ⟩:=j4 (sl:=sl) X H.holds Jw H.world NM v1 v2 HP hR;obtain⟨b,S',h0,⟨pb,rfl⟩,tj⟩:=hJ.main;obtain⟨GJ,hold⟩:=hJ.old;obtain⟨vals,ord,tm,jK,lS,jE⟩:=hJ.chan;have D':=hL.size;have avD:=hJ.size;generalize hn:w'.heap.size=n at*;have E8:∀b,S b->b<n:=fun b hb=>by rw[<-hn];exact(X.held b hb).1
 have Sv:∀p:Addr,n<=p.block->¬Shun (.cell p):=fun p hp hs=>by
  obtain⟨a,e,h⟩:=X.XU _ hs;cases e;omega
 have aaM:∀b,b<n->w₁.heap[b]?=w'.heap[b]? :=fun b hb=>by
  rw[hJ.still b (by omega) (by omega) (by omega) ?_,hL.old b hb];by_cases h:S b
  .exact .inr (.inl h)
  refine .inl fun h'=>?_;rcases h' with h'|h'|h'|h'|h'
  .exact h h'
  all_goals omega
 obtain⟨T0,p0,aW⟩:=jE 0 (by omega);obtain⟨T1,p1,Kd⟩:=jE 1 (by omega);have Xf:∃A0 m0 c0,vals 0=.agg #[.int .i64 0,.slice A0 m0 c0]:=by
  obtain⟨_,_,_,A,c,e,_⟩:=p0;exact⟨_,_,_,e⟩
 have me:∃A1 m1 c1,vals 1=.agg #[.int .i64 1,.slice A1 m1 c1]:=by
  obtain⟨_,_,_,A,c,e,_⟩:=p1;exact⟨_,_,_,e⟩
 obtain⟨A0,m0,c0,Xf⟩:=Xf;obtain⟨A1,m1,c1,me⟩:=me;rw[Xf]at p0;rw[me]at p1;obtain⟨Mt,I8,w₂,DQ,Ic,TP,T,FC,K2,hT,hD⟩:=drain (sl:=CU) (B:=w₁.heap.size+3) ⟨h0,hold,hJ.past.mono (by omega)⟩ jK Xf me lS (by
   unfold zy;rw[hJ.still (n+4) (by omega) (by omega) (by omega) (.inr (.inr (.inr (.inr (.inr rfl))))),hL.chb];rfl)
  (fun p hp hs=>by
   rcases hs with hs|⟨a,e,h⟩
   .exact Sv p (by omega) hs
   cases e;omega) (Zj _)
 have ay:∀b,b<n->w₂.heap[b]?=w'.heap[b]? :=fun b hb=>(hD.old b (by omega) (by omega)).trans (aaM b hb);obtain⟨D,rR,mg,alQ⟩:=dP (w₂:=w₂) (K:=w₁.heap.size) (c':=aP T [1,2]) (cs':=f'::cs') Jw H.world HP.small HP.row hR (fun b c hb=>ay c (by rw[<-hn];exact(H.world.lt hb).2)) hD.kept
  p0 (fun b hb=>hD.old b (aW b hb).2.1 (aW b hb).2.2.2) p1 (fun b hb=>hD.old b (Kd b hb).2.1 (Kd b hb).2.2.2)
 have Jc:GZ (fun l=>Shun l\/Mw (n+5) l) w₂.heap.size:=by
  rintro l (h|⟨a,rfl,h⟩)
  .obtain⟨a,e,h⟩:=X.XU l h
   exact⟨a,e,by have:=hD.size;omega⟩
  exact⟨a,rfl,by have:=hD.size;omega⟩
 have hDs:∀c,D c->c<w₁.heap.size+1/\c≠n+5/\(∀p:Addr,p.block=c->¬Shun (.cell p)):=fun c hc=>by
  have hT:∀T:Nat->Prop,(∀b,T b->(Sx S n b\/W.heap.size<=b)/\b<w₁.heap.size/\b≠n+5/\b≠n+3)->T c->c<w₁.heap.size+1/\c≠n+5/\(∀p:Addr,p.block=c->¬Shun (.cell p)):=fun T hT h=>by
   obtain⟨k1,k2,k3,_⟩:=hT c h;refine⟨by omega,k3,fun p hp=>?_⟩;rcases k1 with(k1|k1)|k1
   .exact(X.held c k1).2 p hp
   .exact Sv p (by omega)
   exact Sv p (by omega)
  rcases mg c hc with rfl|⟨b,hb⟩|h|h
  .exact⟨by omega,by omega,fun p hp=>Sv p (by omega)⟩
  .have:=(H.holds c).2 ⟨b,hb⟩
   exact⟨by have:=E8 c this;omega,by have:=E8 c this;omega,(X.held c this).2⟩
  .exact hT T0 aW h
  exact hT T1 Kd h
 have GU:=hD.size;obtain⟨jy,oU,avE,DZ,aU,nQ,aaI,avF,I1,_,agr,⟨v',rfl,gR,RB⟩,ags,aaN,arI,xh,SA⟩:=RY alQ _ w₂ I8 DQ Ic TP (Zj _) (D1.refl _ _) K2.main K2.old (by rw[GU.1];exact K2.past) (fun b hb=>⟨by have:=(hDs b hb).1;omega,fun p hp hs=>by
   rcases hs with hs|⟨a,e,h⟩
   .exact(hDs b hb).2.2 p hp hs
   cases e;exact(hDs b hb).2.1 (by omega)⟩) Jc
 have arJ:=SA.size;have az:∀b,b<n->DZ.heap[b]?=w'.heap[b]? :=fun b hb=>by
  rw[SA.still b (by omega) ?_,ay b hb];by_cases h:D b
  .exact .inr h
  exact .inl h
 obtain⟨y9,y10,y11,y13,y14,y15,y16,y17,y18,y19,y20,y21,y22,y23,y24,y25,y26,y27,y28,y29,y30,y31,rfl⟩:=hT;obtain⟨agm,XW,alN,KU,XY,nS,sV,RZ,⟨rfl,agn,rfl⟩,aV⟩:=Cf (sl:=aU) (fun _ _ _ h=>h) (a:=G ((aP (TK n (.agg gc') (.slice cR ln lc) (.slice rO sn sc) y9 y13 y14 y15 y16 y17 y18 y19 y10 y11 y20 y21 y22 y23 y24 y25 y26 y27 y28 y29 y30 y31) [1,2]).finish v') (f'::cs')) ⟨agr,ags,aaN⟩ (oR (Shun:=fun l=>Shun l\/Mw (n+5) l) (B:=DZ.heap.size) (W:=DZ));have By:ZaE Zc (alP+(Mt+(jy+agm))) (Yj gs w' sl) t=(.next (Yj XW (DZ.at agn) XY),nS):=by
  rw[Go.FA.runNT_add _ _ _ _ _ _ gZ,Go.FA.runNT_add _ _ _ _ _ _ FC,Go.FA.runNT_add _ _ _ _ _ _ I1];exact RZ
 have Xk:DZ.os=w'.os/\DZ.tape=w'.tape/\DZ.output=w'.output:=by
  refine⟨?_,?_,?_⟩
  .rw[SA.os,hD.os,hJ.os,hL.os]
  .rw[SA.tape,hD.tape,hJ.tape,hL.tape]
  rw[SA.output,hD.output,hJ.output,hL.output]
 have g_:∀b,S b->∀p:Addr,p.block=b->¬(Shun (.cell p)\/Mw (n+5) (.cell p)):=fun b hb p hp hs=>by
  rcases hs with hs|⟨a,e,h⟩
  .exact(X.held b hb).2 p hp hs
  cases e;have:=E8 b hb;omega
 have hlen:=Q' rows A7 fit 0 ln;have Kb:B.lcs.length<(f::cs).length:=hS.deep;rcases zQ (CX A7 fit 0 ln).length with hz|Fy
 .obtain⟨v,wL,hB,Xf,_,hP⟩:=gW hl oX Kb HP hM (k:=(CX rows fit 0 ln).length) (Zj _) (by
   have h1:=Dh (rows:=rows) (fit:=fit) (lo:=0) (hi:=ln);have h2:=HP.small;have:maxLen=9223372036854775807:=rfl;omega)
  rw[Xf (by omega)]at hP;rw[gR hz]at aV;exact ML (Shun₁:=fun l=>Shun l\/Mw (n+5) l) H hS BL By hP hB.block hB.os hB.size aV (fun b hb=>az b (by omega)) (by show w'.heap.size<=DZ.heap.size;omega) Xk xh (Ren.le_refl ρ) (fun b c h=>.inl h) g_ (.slice 0 0 trivial)
 obtain⟨r',k,cs',fz,rfl,hk1,hk2,M8,hSr,hcr,yB,hcs⟩:=RB Fy;obtain⟨v,wL,hB,_,me,hP⟩:=gW hl oX Kb HP hM (k:=k) (by omega) M8;obtain⟨r,rfl,Xg,Ox⟩:=me (by omega);have xj:ρ.P5 r r':=⟨fun b hb=>by have:=(H.world.lt hb).2;omega,by have:=(H.world.lt ρ.base).1;omega,by have:=(H.world.lt ρ.base).2;omega⟩;have hle:ρ.le (ρ.ext r r' xj):=⟨fun b c h=>by
  have:=(H.world.lt h).1;show(if b=r then some r' else ρ b)=some c;rw[if_neg (by omega)];exact h,rfl,rfl,rfl⟩
 have Em:r'<DZ.heap.size:=(Za.1 hcr).1;refine ML (Shun₁:=fun l=>Shun l\/Mw (n+5) l) H hS BL By hP hB.block hB.os hB.size aV (fun b hb=>az b (by omega)) (by show w'.heap.size<=DZ.heap.size;omega) Xk xh hle (fun b c h=>?_) g_ ?_
 .rcases Wk xj h with h|⟨rfl,rfl⟩
  .exact .inl h
  refine .inr ⟨Xg,by omega,Em,fun p hp hs=>?_,_,_,Ox.2,hcr,.cells 22 ?_ (.inr (.inl yB))⟩
  .rcases hs with hs|⟨a,e,h⟩
   .exact Sv p (by omega) hs
   cases e;omega
  rw[hcs, <-hlen];refine⟨by simp[hlen],fun i v x h1 h2=>?_⟩;rw[Array.getElem?_append]at h1 h2;have Sb:(CX rows fit 0 ln).toArray.size=(CX A7 fit 0 ln).toArray.size:=by simp[hlen]
  rw[Sb]at h1;split at h1
  .next Az=>
   rw[if_pos Az]at h2;rw[ZG]at h1 h2;obtain⟨j,_,hj,rfl,hj4⟩:=NT h1;rw[hj4 A7]at h2;cases h2;exact(hR j hj).mono hle
  next Az=>
  rw[if_neg Az]at h2;have e1:=(zY h1);have e2:=(zY h2);rw[Array.mem_replicate]at e1 e2;rw[e1.2,e2.2];exact .slice _ _ trivial
 rw[hlen];exact .slice _ _ ⟨if_pos rfl,rfl,rfl⟩
end
end Go.Proofs.Fit
