/- Part of a proof. -/
import Derived.Test.YtkkjobdfheidkaaGreatDoorQ04
import Derived.Conc.BesideWords
import Derived.Conc.CrowdComm
set_option maxRecDepth 100000
set_option maxHeartbeats 6400000
noncomputable section
set_option linter.all false
open Array renaming getElem?_push_size->ZaA,getElem?_modify->Zac,getElem?_setIfInBounds_ne->Zk,mem_iff_getElem->ZbR,getElem?_eq_getElem->ZC,getElem?_eq_some_iff->Za,getElem?_map->zN,getElem?_setIfInBounds_self_of_lt->Z5,toList->ZbI,getD_eq_getD_getElem?->Yz,replicate->YD,mem_of_getElem?->zC
open Go renaming World->Zc,Value->Ze,undef->Zf,Frame->ZT,Goroutine->Zi,storedEv->YE,Program->Zp,TypeId->Zr,stepG->zd,Event->zc,Trace->Y8,runNT->ZaI,PanicEntry->zn,FuncId->ZaV
open Go.Act renaming put->Zcp
open Go.Addr renaming add->Zcz
open Go.Builtin renaming zeroCells->Zs
open Go.Conc renaming AtRel->Zcy,stepG_seq->Zo,stepG_region_end->Zh,stepG_block->Zbx,stepG_skip->Z3,goes_oper_k->zF,mem_listed->zX,evL_cell->YP,stepG_ret'->Yf,events_results_tmp->ZdU,crowd->Ys,runT_crowd_go->Zb6,Deaf_other->Y9,mem_ofEvents->ZW,served->YZ
open Go.Conc.Goes renaming stop->Z2
open Go.Deferred renaming ofValue->Yk
open Go.Frame renaming enter->Zq,raise->Za0
open Go.Instr renaming indexAt->Zce,sliceAt->ZaO,sliceBounds->Zbn
open Go.IntWalk renaming i64_in->ZcG
open Go.MemAct renaming ofEvent->ZY,touch?->Yn,low->Zcj
open Go.MemOp renaming ofEvents->ZO
open Go.Proofs.Tryz renaming prog->Zd,f104->zT,runUnderlying210->ZbF,runUnderlying197->ZdJ,zeroValue209->ZcB
open Go.Question renaming appendCap->zS
open Go.RowKit renaming Below->YS
open Go.RowKit.Below renaming heap_setCell->Zab,heap_alloc->zJ
open Go.Value.tuple renaming inj->Zdt
open Go.World renaming size_alloc->ZG,setCell->zb,alloc->ZaE,cell?->zG,frozen?_of_block->ZdV,cell?_of_block->zs,shape?->Yx,frozen?->Yy,block_lt_of_cell?->Zy
open List renaming getElem?_map->zU,mem_of_getElem?->Z8,getElem?_eq_some_iff->Zl,getElem?_take_of_lt->ZV,getElem?_toArray->Z1
open List.cons renaming inj->zV
open Nat renaming lt_of_lt_of_le->Zm,le_trans->Zt,le_refl->Zj,eq_zero_or_pos->z7,zero_le->Zn
open Ne renaming symm->Zbq
open Option renaming map_eq_some_iff->zf,getD_some->Zx,map_some->Zdz
open Option.some renaming injEq->ZN,inj->ZK
namespace Go.Proofs.Fit
open Go Go.Conc
def BJ:Code:=Tryz.f104.body.getD .skip
def G5:Code->Code
 | .seq a _=>a
 |c=>c
def DQ:Code->Code
 | .seq _ b=>b
 |c=>c
def KJ:Code->Code
 | .block _ (.loop c)=>c
 |c=>c
def DD:Code:=DQ (DQ (DQ BJ))
def Jz:Code:=KJ (DQ (G5 DD))
def Em:Code:=DQ DD
def F5:Code:=DQ Em
def wE:Array Oper:=match G5 Em with| .region _ ops _=>ops|_=> #[]
def W1 (W:Zc)(gc:Array Ze)(lv sv:Ze):Zc:=
 (((((W.alloc (.cells gc 112)).alloc (.cells #[lv] 27)).alloc (.cells #[sv] 23)).alloc (.chan 2 #[] false 0 0 false)).alloc (.cells #[.chan (some (W.heap.size+3))] 197)).alloc (.cells #[.int .u64 0,.int .u32 0] 206)
def DF (b:Nat):Ze:=.pointer (some ⟨b,0,none⟩)
def TM (n:Nat)(gv lv sv x9 Nc L8 L9 Lm Ln KO KL:Ze):Array Ze:=
 #[gv,lv,sv,DF n,DF (n+1),DF (n+2),.slice none 0 0,DF (n+4),DF (n+5),x9,Zf,Zf,.chan (some (n+3)),Nc,L8,L9,Lm,Ln,KO,KL,Zf,Zf,Zf,Zf,Zf,Zf,Zf,Zf,Zf,Zf,Zf,Zf]
def T1 (n:Nat)(gv lv sv:Ze):Array Ze:=TM n gv lv sv Zf Zf Zf Zf Zf Zf Zf Zf
end Go.Proofs.Fit
set_option linter.unusedSimpArgs false
namespace Go.Proofs.Fit
open Go Go.Conc Go.ConcX Go.RowKit Go.Conc.Lib Go.ConcX.Gen
def wF:∃i,Tryz.prog.info? 209=some i/\i.bytes=32:=by
 have h:(Tryz.prog.info? 209).map (·.bytes)=some 32:=by kernel_rfl
 obtain⟨i,h1,h2⟩:=zf.1 h;exact⟨i,h1,h2⟩
variable {Shun:Loc->Prop}
variable {W w₀ w w' wl w₁:Zc}
variable {gc a gc':Array Ze}
variable {c1 pb k Wg B n r K c b ln lc lo hi:Nat}
variable {cs:List ZT}
def ri {a1 a2:Option Addr}{l1 l2 c2:Nat}(hS:∀a:Addr,W.heap.size<=a.block->¬Shun (.cell a)):
  Goes Zd true Zcy (DE (EvL Shun (W.heap.size+6))) (fun g w=>g=G ((base 104).at ⟨T1 W.heap.size (.agg gc) (.slice a1 l1 c1) (.slice a2 l2 c2),[]⟩ [.code DD]) cs/\∃d,w=(W1 W gc (.slice a1 l1 c1) (.slice a2 l2 c2)).at d) 20
   (G ((base 104).at ⟨#[.agg gc,.slice a1 l1 c1,.slice a2 l2 c2,Zf,Zf,Zf,Zf,Zf,Zf,Zf,Zf,Zf,Zf,Zf,Zf,Zf,Zf,Zf,Zf,Zf,Zf,Zf,Zf,Zf,Zf,Zf,Zf,Zf,Zf,Zf,Zf,Zf],[]⟩ [.code BJ]) cs) W:=by
 obtain⟨i,hi,hb⟩:=wF;have hm:∀w,(Instr.makeChan 197 (.int .i64 2)).run Zd w=.ok (.chan (some w.heap.size)) (w.alloc (.chan 2 #[] false 0 0 false)):=fun w=>run_makeChan (P:=Zd) (w:=w) (t:=197) Tryz.underlying197 hi .i64 2 (by omega) (by rw[hb];omega);have hme:∀w es,(Instr.makeChan 197 (.int .i64 2)).events Zd w es=es:=fun w es=>events_makeChan (P:=Zd) (w:=w) (t:=197) Tryz.underlying197 hi .i64 2 (by omega) (by rw[hb];omega) es;clear hi hb;simp only[BJ,zT,Zx]
 l_c Zo
 l_reg
 i_opw (hS _ (by simp<;>omega))
 i_opw (hS _ (by simp<;>omega))
 i_opw (hS _ (by simp<;>omega))
 l_op
 l_c Zh
 l_c Zo
 l_reg
 i_opw (hS _ (by simp<;>omega))
 i_opw (hS _ (by simp<;>omega))
 i_opw (hS _ (by simp<;>omega))
 l_c Zh
 l_c Zo
 l_reg
 i_opw (hS _ (by simp<;>omega))
 l_c Zh
 refine Z2 (fun w₁ BV=>?_);obtain⟨d,hd⟩:=BV;subst hd;simp only[alloc_at,setCell_at,at_at];refine⟨?_,_,rfl⟩;simp[T1,TM,DD,DQ,BJ,zT,DF]
end Go.Proofs.Fit
set_option linter.unusedSimpArgs false
namespace Go.Proofs.Fit
open Go Go.Conc Go.FO Go.Pair Go.RowKit Go.Conc.Lib Go.ConcR.Gen Go.ConcN.Gen
open Go.ConcN (WgLive)
open Go.ConcR (DC0)
def mL (S:Nat->Prop)(w:Zc)(o:Obj):Ip S w (w.alloc o)=fun b=>S b\/b=w.heap.size:=by
 funext b
 apply propext;unfold Ip;rw[ZG];constructor
 .rintro(h|h)
  .exact .inl h
  .exact .inr (by omega)
 .rintro(h|h)
  .exact .inl h
  .exact .inr (by omega)
def cE (S:Nat->Prop)(w:Zc)(a:Addr)(v:Ze):Ip S w (w.setCell a v)=S:=by
 funext b
 apply propext;unfold Ip;have:(w.setCell a v).heap.size=w.heap.size:=by simp[zb]
 rw[this];constructor
 .rintro(h|h)
  .exact h
  .omega
 .exact .inl
def F6 (T:Array Ze)(cs:List ZT):Zi:=G ((base 104).at ⟨T,[]⟩ [.code Jz,.inLoop Jz,.inBlock 0,.code Em]) cs
section
variable {Lk S:Nat->Prop}{Wg n:Nat}{gv lv sv:Ze}{cs:List ZT}
def mM (w:Zc):Goes Zd true (Ai 206 Wg S) DC0 (fun g _=>g=F6 (TM n gv lv sv Zf (.int .i64 0) Zf Zf Zf Zf Zf Zf) cs) 8 (G ((base 104).at ⟨T1 n gv lv sv,[]⟩ [.code DD]) cs) w:=by
 have hK:True:=trivial;simp only[T1,TM,DD,DQ,BJ,zT,Zx]
 u_c Zo Dx hK
 u_c Zo Dx hK
 u_reg Dx hK
 u_op Dx hK
 u_c Zh Dx hK
 u_c Zbx Dx hK
 u_c stepG_loop Dx hK
 refine Z2 fun _ _=>?_;simp[F6,Jz,KJ,G5,TM,Em,DD,DQ,BJ,zT]
end
structure AF (S:Nat->Prop)(pb:Nat)(k:Nat)(w₀ w:Zc):Prop where
 base:D_ S w₀ w
 cell:w.heap[pb]?=some (.cells #[.int .i64 k] 3 (0,0))
 lt:pb<w.heap.size
variable {S:Nat->Prop}
variable {c1 pb k Wg B n r K c b ln lc lo hi:Nat}
variable {W w₀ w w' wl w₁:Zc}
def rj (hS:¬S Wg)(hp:pb≠Wg):Gw 206 Wg (fun b=>S b\/b=pb) (AF S pb k w₀) where
 rely w w' r h:=⟨h.base.trans ⟨fun b hb=>r.base.same b (.inl hb),r.base.size,r.base.os⟩,(r.base.same pb (.inr rfl)).trans h.cell,Zm h.lt r.base.size⟩
 set w a v ha h:=by
  have hh:∀b,b≠Wg->(w.setCell a v).heap[b]?=w.heap[b]? :=fun b hb=>Zab w a v b (by rw[ha];exact hb);refine⟨h.base.trans ⟨fun b hb=>hh b (fun e=>hS (e▸hb)),by simp[zb],rfl⟩,?_,by simpa[zb]using h.lt⟩;exact(hh pb hp).trans h.cell
def Nd (n pb:Nat):Ze:=.func (.func 156) #[] (I6 (n+5) (n+1) pb n (n+2) (n+4))
def rm:Code->Code
 | .block _ c=>c
 |c=>c
def mN:Code->Array Oper
 | .region _ ops _=>ops
 |_=> #[]
def Pz:Code:=rm (G5 (DQ (DQ Jz)))
def acD:Array Oper:=mN (G5 Pz)
def r67:Code:=DQ Pz
def r7:Code:=DQ r67
def acE:Array Oper:=mN r7
def r8:Code:=DQ (DQ (DQ Jz))
def k5:List Item:=[.inBlock 1,.code r8,.inLoop Jz,.inBlock 0,.code Em]
def VM (n pb k:Nat)(gv lv sv KO KL:Ze)(cs:List ZT):Zi:=
 G ((base 104).at ⟨TM n gv lv sv (DF pb) (.int .i64 k) (.bool true) (.int .i64 k) (.tuple #[]) (Nd n pb) KO KL,[]⟩ (.inRegion acE []::k5)) cs
section
variable {Lk S:Nat->Prop}{n k:Nat}{gv lv sv x9 L8 L9 Lm Ln KO KL:Ze}{cs:List ZT}{Pay:Gu}{Next:Ci}
def VN (hk:k<2)(w:Zc)(Li:WgLive 206 (n+5) w)(hW:n+5<w.heap.size)(jS:¬S (n+5))(hSl:∀b,S b->b<w.heap.size)(hLk:∀b,Lk b->b<w.heap.size)
 (ahU:∀(pb:Nat) (w':Zc),w.heap.size<=pb->pb<w'.heap.size->D_ S w w'->WgLive 206 (n+5) w'->w'.heap[pb]?=some (.cells #[.int .i64 k] 3 (0,0))->
 Bf Zd false 206 (n+5) (fun b=>S b\/b=pb) (Pair.AtSend Zd 206 (n+5) (n+3) Pay) (fun b=>S b\/b=pb) (born Zd (call156 (n+5) (n+1) pb n (n+2) (n+4))) w'/\
 Next (fun b=>S b\/b=pb) (VM n pb k gv lv sv KO KL cs) w'):
  Bf Zd true 206 (n+5) Lk (AtKdS Zd 206 (n+5) (n+3) Pay Next) S (F6 (TM n gv lv sv x9 (.int .i64 k) L8 L9 Lm Ln KO KL) cs) w:=by
 have hK:True:=trivial;have AA:((k:Int)<2):=by omega
 have hA:Bf Zd true 206 (n+5) Lk (fun S' g w'=>S'=S/\D_ S w w'/\WgLive 206 (n+5) w'/\g=G ((base 104).at ⟨TM n gv lv sv x9 (.int .i64 k) (.bool true) (.int .i64 k) Lm Ln KO KL,[]⟩ (.inRegion acD [1,2]:: .code r67::k5)) cs) S (F6 (TM n gv lv sv x9 (.int .i64 k) L8 L9 Lm Ln KO KL) cs) w:=by
  refine Bf.Hg (n:=20) ?_;have hF:D_ S w w/\WgLive 206 (n+5) w:=⟨D_.refl _ _,Li⟩;have rl:∀ {a b:Zc},D_ S w a/\WgLive 206 (n+5) a->Ai 206 (n+5) S a b->D_ S w b/\WgLive 206 (n+5) b:=fun h r=>⟨h.1.trans r.base,r.live h.2⟩;simp only[F6,Jz,KJ,G5,TM,Em,DD,DQ,BJ,zT,Zx]
  u_c Zo rl hF
  u_reg rl hF
  u_op rl hF
  u_c Zh rl hF
  u_c Zo rl hF
  u_cond true rl hF
  u_c Z3 rl hF
  u_c Zo rl hF
  u_c Zbx rl hF
  u_c Zo rl hF
  u_reg rl hF
  u_op rl hF
  refine Z2 fun _ r=>⟨trivial,(rl hF r).1,(rl hF r).2,?_⟩;simp[F6,k5,r67,r8,acD,Pz,rm,mN,Jz,KJ,G5,TM,Em,DD,DQ,BJ,zT]
 refine hA.bind fun S' g w₁ B5=>?_;obtain⟨rfl,Og,cF,rfl⟩:=B5 w₁ (Ai.refl w₁);clear hA B5;refine Bf.R8 rfl fun w₂ hr=>?_;have rp:=Og.trans hr.base;have aan:=hr.live cF;have G9:w.heap.size<=w₂.heap.size:=rp.size;clear hr Og cF;simp only[acD,k5,r67,r8,Pz,rm,mN,Jz,KJ,G5,TM,Em,DD,DQ,BJ,zT,Zx];refine zF rfl rfl (by decide) (fun K hK=>?_)
 go_simp
 refine hK _ _ ⟨⟨by simp,fun b hb _=>zJ _ _ _ hb,rfl,rfl,rfl,fun e he=>?_⟩,?_⟩
 .have hm:=zX he
  simp[go_sem, *]at hm
 clear hK K;rw[mL];have j9:(w₂.alloc (.cells #[.int .i64 0] 3)).heap[w₂.heap.size]?=some (.cells #[.int .i64 0] 3 (0,0)):=by
  unfold ZaE;exact ZaA
 have j_:(w₂.alloc (.cells #[.int .i64 0] 3)).frozen? ⟨w₂.heap.size,0,none⟩=false:=by simp[go_sem]
 have VO:D_ S' w (w₂.alloc (.cells #[.int .i64 0] 3)):=rp.trans ⟨fun b hb=>zJ _ _ _ (Zm (hSl b hb) G9),by simp,rfl⟩;have cG:WgLive 206 (n+5) (w₂.alloc (.cells #[.int .i64 0] 3)):=WgLive.of_heap aan (zJ _ _ _ (by omega));have hz:w₂.heap.size<(w₂.alloc (.cells #[.int .i64 0] 3)).heap.size:=by simp
 generalize hpb:w₂.heap.size=pb at*;generalize w₂.alloc (.cells #[.int .i64 0] 3)=D9 at*;clear rp aan hpb;refine Bf.R8 rfl fun Lh hr=>?_;have aao:=VO.trans (⟨fun b hb=>hr.base.same b (.inl hb),hr.base.size,hr.base.os⟩:D_ S' D9 Lh);have aap:=hr.live cG;have rq:=(hr.base.same pb (.inr rfl)).trans j9;have ahV:Lh.cell? ⟨pb,0,none⟩=some (.int .i64 0):=by unfold zG;rw[rq];rfl
 have ahW:=(ZdV (a:=⟨pb,0,none⟩) (hr.base.same pb (.inr rfl))).trans j_;have aaq:pb<Lh.heap.size:=Zm hz hr.base.size;clear hr VO cG j9 j_ hz;refine zF rfl rfl (by decide) (fun K hK=>?_)
 go_simp
 have hpW:pb≠n+5:=by omega
 have hh:∀b,b≠pb->(Lh.setCell ⟨pb,0,none⟩ (.int .i64 k)).heap[b]?=Lh.heap[b]? :=fun b hb=>Zab Lh _ _ b hb;refine hK _ _ ⟨⟨by simp[zb],fun b hb hx=>hh b fun e=>?_,rfl,rfl,rfl,fun e he=>?_⟩,?_⟩
 .subst e
  rcases hx with hx|hx
  .exact hx (.inr rfl)
  .have:=hLk b hx;omega
 .have hm:=zX he
  simp[go_sem,YE, *]at hm;subst hm;exact⟨.inl (.inr rfl),fun _ hx=>by have:=hLk pb hx;omega⟩
 clear hK K;rw[cE];have aar:AF S' pb k w (Lh.setCell ⟨pb,0,none⟩ (.int .i64 k)):=
  ⟨aao.trans ⟨fun b hb=>hh b fun e=>by have:=hSl b hb;omega,by simp[zb],rfl⟩,by unfold zb;simp only[Zac,if_pos,rq,Zdz];rfl,by simpa[zb]using aaq⟩
 have aas:WgLive 206 (n+5) (Lh.setCell ⟨pb,0,none⟩ (.int .i64 k)):=WgLive.of_heap aap (hh _ (Zbq hpW));generalize Lh.setCell ⟨pb,0,none⟩ (.int .i64 k)=vZ at*;clear aao aap ahV rq ahW aaq hh;have hAK:Gw 206 (n+5) (fun b=>S' b\/b=pb) (AF S' pb k w):=rj jS hpW;have hF:AF S' pb k w vZ/\WgLive 206 (n+5) vZ:=⟨aar,aas⟩;clear aar aas;refine Bf.Hg (n:=50) ?_;have rl:= @Ab 206 (n+5) _ _ hAK
 u_c Zh rl hF
 u_c Zo rl hF
 u_reg rl hF
 u_in rl hF
 refine goes_call rfl rfl (by k_ne) rfl Tryz.VG.f_add (nm_add Tryz.link) rfl ⟨by u_nil,?_⟩
 walk_nrmf addFn
 have hP:= @vY Tryz.link Zd Tryz.VG (n+5) (n+3) _ _ hAK Pay Next;simp only[body_add,addFn,Zx]at hP;refine RD (hP (mT:=12) (fun v_ aat aau=>?_) _ hF) (by omega);clear hP hF;have hF:AF S' pb k w v_/\WgLive 206 (n+5) v_:=⟨aat,aau⟩;clear aat aau
 walk_nrm
 u_c Zh rl hF
 u_reg rl hF
 u_op rl hF
 refine Z2 fun ahX r=>?_;replace hF:=rl hF r;clear r;obtain⟨h1,h2⟩:=ahU pb ahX G9 hF.1.lt hF.1.base hF.2 hF.1.cell;refine⟨rfl,_,_,?_,h1,h2⟩;rw[stepG_spawn (d:=call156 (n+5) (n+1) pb n (n+2) (n+4)) (w':=ahX) (f:=.func 156) (c:=I6 (n+5) (n+1) pb n (n+2) (n+4)) rfl rfl (by decide) (by simp[go_sem,call156,Yk,I6,ptr,DF]) rfl];simp[listed,go_sem,seen,Yk];simp[VM,Nd,I6,ptr,DF,TM,k5,acE,r7,r67,r8,Pz,rm,mN,Jz,KJ,G5,Em,DD,DQ,BJ,zT,Zcp]
 rfl
end
end Go.Proofs.Fit
set_option linter.unusedSimpArgs false
namespace Go.Proofs.Fit
open Go Go.Conc Go.FO Go.Pair Go.RowKit Go.Conc.Lib Go.ConcR.Gen Go.ConcN.Gen
open Go.ConcN (WgLive)
open Go.ConcR (DC0)
section
variable {P:Zp}{ty:Zr}{Wg:Nat}{Anch A A':Ci}{S:Nat->Prop}
variable {g:Zi}
variable {W w₀ w w' wl w₁:Zc}
def mO (h:∀S g w,A S g w->A' S g w){vs:Nat}(x:AtW2 P ty Wg Anch A S vs g w):AtW2 P ty Wg Anch A' S vs g w:=by
 obtain⟨h0,hx⟩:=x;refine⟨h0,fun v hv hw=>⟨(hx v hv hw).1,fun Bn=>?_⟩⟩;obtain⟨g',h1,m,h2⟩:=(hx v hv hw).2 Bn;exact⟨g',h1,m,EO (fun g w=>h S g w) h2⟩
def mP (h:∀S g w,A S g w->A' S g w)(x:AtW1 P ty Wg Anch A S g w):AtW1 P ty Wg Anch A' S g w:=by
 obtain⟨h0,hx⟩:=x;refine⟨h0,fun v hv hw=>?_⟩;obtain⟨g',h1,h2,h3⟩:=hx v hv hw;refine⟨g',h1,h2,fun Bn=>?_⟩;obtain⟨m,h4⟩:=h3 Bn;exact⟨m,EO (fun g w=>mO h) h4⟩
def mQ (h:∀S g w,A S g w->A' S g w)(x:AtKd P ty Wg A S g w):AtKd P ty Wg A' S g w:=by
 obtain⟨h0,g',h1,m,h2⟩:=x;exact⟨h0,g',h1,m,EO (fun g w=>h S g w) h2⟩
end
variable {P:Zp}
variable {c1 pb k Wg B n r K c b ln lc lo hi:Nat}
variable {S:Nat->Prop}
variable {W w₀ w w' wl w₁:Zc}
def PD {m:Bool}{ty:Zr}{St:Zi->Zc->Prop}:∀ {n:Nat} {g:Zi} {w:Zc},Ai ty Wg S w₀ w->Goes P m (Ai ty Wg S) DC0 St n g w->Goes P m (Ai ty Wg S) DC0 (fun g w'=>Ai ty Wg S w₀ w'/\St g w') n g w:=by
 intro n
 induction n with
 |zero=>intro g w hr h w₁ r;exact⟨hr.trans r,h w₁ r⟩
 |succ n ih=>
  intro g w hr h;rcases h with h|⟨hs,h⟩
  .exact .inl fun w₁ r=>⟨hr.trans r,h w₁ r⟩
  .refine .inr ⟨hs,fun w₁ r=>?_⟩
   have:=h w₁ r;cases hx:zd P m g w₁ with
   |go g' w' es=>
    rw[hx,goes_go]at this;rw[goes_go];obtain⟨⟨rfl,rfl⟩,hg⟩:=this;exact⟨⟨rfl,rfl⟩,ih (hr.trans r) hg⟩
   |_=>rw[hx]at this;exact this.elim
def rr (Wg:Nat)(S:Nat->Prop):Gw 206 Wg S (fun _=>True):=⟨fun _ _ _ h=>h,fun _ _ _ _ h=>h⟩
def kg (n pb:Nat)(gv lv sv KL:Ze)(rest:List Nat):ZT:=
 (base 104).at ⟨TM n gv lv sv (DF pb) (.int .i64 2) (.bool false) (.int .i64 1) (.tuple #[]) (Nd n pb) (.int .i64 2) KL,[]⟩ (.inRegion wE rest:: [.code F5])
def Xu (n pb:Nat)(gv lv sv:Ze)(cs:List ZT):Zi:=G (kg n pb gv lv sv (.tuple #[]) []) cs
def ki (n:Nat)(gv lv sv:Ze)(cs:List ZT):Ci:=fun _ g _=>∃pb,g=Xu n pb gv lv sv cs
def Tm (n:Nat)(gv lv sv:Ze)(cs:List ZT):Ci:=fun S g w=>∃pb,Xh Tryz.link (fun _ _=>True) (n+5) (kg n pb gv lv sv Zf [0]) cs S g w
section
variable {S:Nat->Prop}{n k:Nat}{gv lv sv:Ze}{cs:List ZT}
def UX:∀S g w,ki n gv lv sv cs S g w->g.status=.running:=by
 rintro S g w ⟨pb,rfl⟩
 rfl
def Tn:∀S g w,Tm n gv lv sv cs S g w->g.status=.running:=by
 rintro S g w ⟨pb,_,T,rfl,_⟩
 rfl
def cH:∀S g w,Tm n gv lv sv cs S g w->∃m,Goes Zd true (Ai 206 (n+5) S) DC0 (AtW1 Zd 206 (n+5) (ki n gv lv sv cs) (Tm n gv lv sv cs) S) m g w:=by
 rintro S g w ⟨pb,h⟩;obtain⟨m,hm⟩:=fV (L:=Tryz.link) (P:=Zd) Tryz.VG (Wg:=n+5) (F:=fun _ _=>True) (Anch:=ki n gv lv sv cs) (b₀:=base 104) (mT:=0) (fun S _ w _ _=>by
  intro w₁ _;refine⟨pb,?_⟩;simp[Xu,kg,wE,Em,G5,DD,DQ,BJ,zT,Zcp,TM]) S g w h
 exact⟨m,EO (fun g w=>mP fun S g w h=>⟨pb,h⟩) hm⟩
variable {KO KL x9 Nc L8 L9 Lm Ln Rc R9 eG UY Uw Ux Uy Uz UA UB v u:Ze}
def Tp (hk:k<2)(w:Zc):Goes Zd true (Ai 206 (n+5) S) DC0 (fun g w'=>D_ S w w'/\(WgLive 206 (n+5) w->WgLive 206 (n+5) w')/\g=F6 (TM n gv lv sv (DF pb) (.int .i64 ((k:Int)+1)) (.bool true) (.int .i64 k) (.tuple #[]) (Nd n pb) (.int .i64 ((k:Int)+1)) KL) cs) 12 (VM n pb k gv lv sv KO KL cs) w:=by
 have hF:Ai 206 (n+5) S w w:=Ai.refl w;have h0:(0:Int)<=k:=by omega
 have h1:(k:Int)<2:=by omega
 have rl:∀ {a b:Zc},Ai 206 (n+5) S w a->Ai 206 (n+5) S a b->Ai 206 (n+5) S w b:=fun h r=>h.trans r;simp only[VM,k5,acE,r7,r67,r8,Pz,rm,mN,Jz,KJ,G5,TM,Em,DD,DQ,BJ,zT,Zx]
 u_c Zh rl hF
 u_c stepG_inBlock rl hF
 u_reg rl hF
 u_op rl hF
 u_op rl hF
 u_c Zh rl hF
 u_c stepG_inLoop rl hF
 refine Z2 fun _ r=>⟨(rl hF r).base,(rl hF r).live,?_⟩;have hw:IntKind.i64.wrap ((k:Int)+1)=k+1:=ZcG _ (by omega);rw[hw];simp[F6,Jz,KJ,G5,TM,Em,DD,DQ,BJ,zT]
def mR (w:Zc)(Li:WgLive 206 (n+5) w):
  Goes Zd true (Ai 206 (n+5) S) DC0 (AtKd Zd 206 (n+5) (Tm n gv lv sv cs) S) 30 (F6 (TM n gv lv sv (DF pb) (.int .i64 2) (.bool true) (.int .i64 1) (.tuple #[]) (Nd n pb) (.int .i64 2) Zf) cs) w:=by
 have hF:=Li;simp only[F6,Jz,KJ,G5,TM,Em,DD,DQ,BJ,zT,Zx]
 u_c Zo Ag hF
 u_reg Ag hF
 u_op Ag hF
 u_c Zh Ag hF
 u_c Zo Ag hF
 u_cond false Ag hF
 u_exit Ag hF
 u_c Zo Ag hF
 u_reg Ag hF
 u_in Ag hF
 refine goes_call rfl rfl (by k_ne) rfl Tryz.VG.f_wait (nm_wait Tryz.link) rfl ⟨by u_nil,?_⟩
 walk_nrmf waitFn
 have hP:= @fW Tryz.link Zd Tryz.VG (n+5) (fun _ _=>True) S (rr _ _);simp only[body_wait,waitFn,Zx]at hP;refine RD (EO (fun g w h=>mQ (fun S g w h=>⟨pb,?_⟩) h) (hP _ ⟨trivial,hF⟩)) (by omega);simpa[kg,wE,F5,Em,G5,DD,DQ,BJ,zT,TM]using h
def cI {L:Nat->Prop}{Pay:Nat->Gu}(w:Zc)(Li:WgLive 206 (n+5) w)(hW:n+5<w.heap.size)(jS:¬S (n+5))(hSl:∀b,S b->b<w.heap.size)(hL:∀b,L b->b<w.heap.size)
 (hwk:∀(k pb:Nat) (S':Nat->Prop) (w':Zc),k<2->(∀b,S b->S' b)->S' pb->(∀b,S' b->S b\/w.heap.size<=b)->(∀b,S' b->b<w'.heap.size)->D_ S w w'->WgLive 206 (n+5) w'->w'.heap[pb]?=some (.cells #[.int .i64 k] 3 (0,0))->w.heap.size<=pb->
 Bf Zd false 206 (n+5) S' (Pair.AtSend Zd 206 (n+5) (n+3) (Pay k)) S' (born Zd (call156 (n+5) (n+1) pb n (n+2) (n+4))) w'):
  Bf Zd true 206 (n+5) L (AtKdS Zd 206 (n+5) (n+3) (Pay 0) (Nxt Zd 206 (n+5) (n+3) Pay 2 (Tm n gv lv sv cs) 1)) S (G ((base 104).at ⟨T1 n gv lv sv,[]⟩ [.code DD]) cs) w:=by
 have h0:Bf Zd true 206 (n+5) L (fun S' g w'=>S'=S/\Ai 206 (n+5) S w w'/\g=F6 (TM n gv lv sv Zf (.int .i64 0) Zf Zf Zf Zf Zf Zf) cs) S (G ((base 104).at ⟨T1 n gv lv sv,[]⟩ [.code DD]) cs) w:=
  Bf.Hg (n:=8) (EO (fun g w' h=>⟨rfl,h⟩) (PD (Ai.refl w) (mM (S:=S) (n:=n) (gv:=gv) (lv:=lv) (sv:=sv) (cs:=cs) (Wg:=n+5) w)))
 refine h0.bind fun S₀ amP w₀ B5=>?_;obtain⟨rfl,kj,rfl⟩:=B5 w₀ (Ai.refl w₀);clear h0 B5;have ru:=kj.base.size;refine VN (k:=0) (by omega) w₀ (kj.live Li) (by omega) jS (fun b hb=>Zm (hSl b hb) ru) (fun b hb=>Zm (hL b hb) ru) fun Nf w₁ qf WS Og cF ahY=>?_;have anI:=Og.size;have K7:∀b,S₀ b\/b=Nf->b<w₁.heap.size:=by
  rintro b (hb|rfl)
  .have:=hSl b hb;omega
  .exact WS
 refine⟨hwk 0 Nf _ w₁ (by omega) (fun b hb=>.inl hb) (.inr rfl) (fun b hb=>hb.imp id fun e=>by omega) K7 (kj.base.trans Og) cF ahY (by omega),?_⟩;show Bf _ _ _ _ _ _ _ _ _;have h1:Bf Zd true 206 (n+5) (fun b=>S₀ b\/b=Nf) (fun S' g w'=>S'=(fun b=>S₀ b\/b=Nf)/\Ai 206 (n+5) (fun b=>S₀ b\/b=Nf) w₁ w'/\g=F6 (TM n gv lv sv (DF Nf) (.int .i64 1) (.bool true) (.int .i64 0) (.tuple #[]) (Nd n Nf) (.int .i64 1) Zf) cs) (fun b=>S₀ b\/b=Nf) (VM n Nf 0 gv lv sv Zf Zf cs) w₁:=
  Bf.Hg (n:=12) (EO (fun g w' h=>⟨rfl,h.1,h.2.2.2⟩) (PD (Ai.refl w₁) (Tp (S:=fun b=>S₀ b\/b=Nf) (n:=n) (k:=0) (by omega) w₁)))
 refine h1.bind fun S' g w₂ B5=>?_;obtain⟨rfl,FR,rfl⟩:=B5 w₂ (Ai.refl w₂);clear h1 B5;have Xv:=FR.base.size;refine VN (k:=1) (by omega) w₂ (FR.live cF) (by omega) (fun h=>h.elim jS fun e=>by omega) (fun b hb=>Zm (K7 b hb) Xv) (fun b hb=>Zm (K7 b hb) Xv) fun Xw D9 hp3 hp4 VO cG j9=>?_;have ry:=VO.size;have hR:D_ S₀ w D9:=(kj.base.trans Og).trans (⟨fun b hb=>(VO.same b (.inl hb)).trans (FR.base.same b (.inl hb)),Zt Xv ry,VO.os.trans FR.base.os⟩);refine⟨hwk 1 Xw _ D9 (by omega) (fun b hb=>.inl (.inl hb)) (.inr rfl) (fun b hb=>?_) (fun b hb=>?_) hR cG j9 (by omega),?_⟩
 .rcases hb with(hb|hb)|hb
  .exact .inl hb
  .exact .inr (by omega)
  .exact .inr (by omega)
 .rcases hb with hb|hb
  .exact Zm (K7 b hb) (Zt Xv ry)
  .omega
 show Bf _ _ _ _ _ _ _ _ _;have h2:Bf Zd true 206 (n+5) (fun b=>(S₀ b\/b=Nf)\/b=Xw) (fun S' g w'=>S'=(fun b=>(S₀ b\/b=Nf)\/b=Xw)/\Ai 206 (n+5) (fun b=>(S₀ b\/b=Nf)\/b=Xw) D9 w'/\g=F6 (TM n gv lv sv (DF Xw) (.int .i64 2) (.bool true) (.int .i64 1) (.tuple #[]) (Nd n Xw) (.int .i64 2) Zf) cs) (fun b=>(S₀ b\/b=Nf)\/b=Xw) (VM n Xw 1 gv lv sv (.int .i64 1) Zf cs) D9:=
  Bf.Hg (n:=12) (EO (fun g w' h=>⟨rfl,h.1,h.2.2.2⟩) (PD (Ai.refl D9) (Tp (S:=fun b=>(S₀ b\/b=Nf)\/b=Xw) (n:=n) (k:=1) (by omega) D9)))
 refine h2.bind fun S' g Lh B5=>?_;obtain⟨rfl,S3,rfl⟩:=B5 Lh (Ai.refl Lh);exact Bf.Hg (mR Lh (S3.live cG))
end
end Go.Proofs.Fit
set_option linter.unusedSimpArgs false
namespace Go.Proofs.Fit
open Go Go.Conc Go.ConcX Go.RowKit Go.Conc.Lib Go.ConcX.Gen
def ME:Code:=DQ (DQ F5)
def J0:Code:=KJ (DQ (G5 ME))
def J1:Code:=DQ ME
def Qv:Array Oper:=match G5 J0 with| .region _ ops _=>ops|_=> #[]
def L_:Code:=DQ J0
def k13:List Item:=[.code L_,.inLoop J0,.inBlock 2,.code J1]
def TJ (n:Nat)(gv lv sv x9 Nc L8 L9 Lm Ln KO KL mS Rc R9 eG rz UY Uw Ux Uy Uz UA UB:Ze):Array Ze:=
 #[gv,lv,sv,DF n,DF (n+1),DF (n+2),.slice none 0 0,DF (n+4),DF (n+5),x9,mS,Rc,.chan (some (n+3)),Nc,L8,L9,Lm,Ln,KO,KL,R9,eG,rz,UY,Uw,Ux,Uy,Uz,UA,UB,Zf,Zf]
def Kw (T:Array Ze)(cs:List ZT):Zi:=G ((base 104).at ⟨T,[]⟩ (.inRegion Qv [0,1]::k13)) cs
variable {Shun:Loc->Prop}
variable {c1 pb k Wg B n r K c b ln lc lo hi:Nat}
def km (r:Nat)(wr:Bool)(hB:r<B):EvL Shun B ⟨.obj r,wr,true⟩:=by
 cases wr
 .refine⟨fun x hx _=>?_,by simp,by simp,?_⟩
  .simp only[ZY,Yn,ZN]at hx
   subst hx;simp
  .simp only[ZY,Zcj,Loc.low];exact hB
 .refine⟨fun x hx _=>?_,by simp,by simp,?_⟩
  .simp only[ZY,Yn]at hx
   cases hx
  .simp only[ZY,Zcj];exact hB
variable {W w₀ w w' wl w₁:Zc}
variable {KO KL gv lv sv x9 Nc L8 L9 Lm Ln Rc R9 eG UY Uw Ux Uy Uz UA UB v u:Ze}
variable {tm:Bool}
variable {cs:List ZT}
def gm {pb s:Nat}{buf:Array Ze}(hS:∀a:Addr,a.block=n+4->¬Shun (.cell a))(hB:n+4<B)(hB':n+3<B)(hc:W.cell? ⟨n+4,0,none⟩=some (.chan (some (n+3))))(ho:W.heap[n+3]?=some (.chan 2 buf false s r tm))(AA:n+4<W.heap.size):
  Goes Zd true Zcy (DE (EvL Shun B)) (fun g w=>g=Kw (TJ n gv lv sv x9 Nc L8 L9 Lm Ln KO (.tuple #[]) (DF W.heap.size) Zf (.chan (some (n+3))) (.chan (some (n+3))) Zf Zf Zf Zf Zf Zf Zf Zf) cs/\∃d,w=((W.setChan (n+3) 2 buf true s r tm).alloc (.cells #[.slice none 0 0,.slice none 0 0] 210)).at d) 20
   (G ((base 104).at ⟨TM n gv lv sv x9 Nc L8 L9 Lm Ln KO (.tuple #[]),[]⟩ (.inRegion wE []:: [.code F5])) cs) W:=by
 simp only[TM,DF,F5,Em,DD,DQ,BJ,zT,Zx]
 l_c Zh
 l_c Zo
 l_reg
 i_opw (hS _ rfl)
 l_in
 rename_i dd;refine zF rfl rfl (by decide) (fun K hK=>?_);have gp:=fun(d:Nat) (es:Array zc)=>events_close_open (P:=Zd) (w:=W.at d) (es:=es) #[197] 0 (r:=n+3) ho;have hrn:=fun(d:Nat)=>run_close_open (P:=Zd) (w:=W.at d) #[197] 0 (r:=n+3) ho
 go_simp
 refine hK _ ((W.setChan (n+3) 2 buf true s r tm).at dd) ⟨fun e he=>?_,?_⟩
 .have hm:=zX he
  simp[go_sem, *]at hm;rcases hm with rfl|rfl
  .exact km _ _ hB'
  .exact km _ _ hB'
 clear hK K gp hrn
 l_c Zh
 l_c Zo
 l_reg
 i_opw (fun h=>h)
 l_c Zh
 have hz:(W.setChan (n+3) 2 buf true s r tm).heap.size=W.heap.size:=size_setChan _ _ _ _ _ _ _ _;have ND:((W.setChan (n+3) 2 buf true s r tm).alloc (.cells #[.slice none 0 0,.slice none 0 0] 210)).cell? ⟨n+4,0,none⟩=some (.chan (some (n+3))):=by
  refine(zs (w:=W) (a:=⟨n+4,0,none⟩) ?_).trans hc;rw[zJ _ _ _ (by rw[hz];exact AA)];exact Zk (by show n+3≠n+4;omega)
 rw[hz];clear hc ho
 l_c Zo
 l_c Zo
 l_reg
 i_opw (hS _ rfl)
 l_c Zh
 l_c Zbx
 l_c stepG_loop
 l_c Zo
 l_reg
 refine Z2 (fun w₁ BV=>?_);obtain⟨d,hd⟩:=BV;subst hd;simp only[alloc_at,setCell_at,at_at];refine⟨?_,_,rfl⟩;simp[Kw,TJ,DF,Qv,k13,L_,J0,J1,ME,KJ,G5,F5,Em,DD,DQ,BJ,zT]
end Go.Proofs.Fit
set_option linter.unusedSimpArgs false
namespace Go.Proofs.Fit
open Go Go.Conc Go.ConcX Go.RowKit Go.Conc.Lib Go.ConcX.Gen
def mU (P:Zp)(w:Zc)(es:Array zc)(a:Addr)(m:Mode)(b:Option Addr)(l c:Nat):(store a (.slice b l c) m).events P w es=YE P w es a (.slice b l c) m:=events_store P w es a _ m rfl
def VP (a:Addr)(w:Zc)(es:Array zc)(k:Int)(hk:k=0\/k=1):(Zce 210 (.pointer (some a)) (.int .i64 k)).events Zd w es=es:=by
 unfold Zce;rcases hk with rfl|rfl<;>simp[go_sem,ZbF]
def Ma (T:Array Ze)(cs:List ZT):Zi:=G ((base 104).at ⟨T,[]⟩ (.inRegion Qv [1]::k13)) cs
variable {Shun:Loc->Prop}
variable {c1 pb k Wg B n r K c b ln lc lo hi:Nat}
variable {W w₀ w w' wl w₁:Zc}
variable {KO KL gv lv sv x9 Nc L8 L9 Lm Ln Rc R9 eG UY Uw Ux Uy Uz UA UB v u:Ze}
variable {cs:List ZT}
def gq {va:Option Addr}{vn vc:Nat}{old:Ze}(hk:k=0\/k=1)(hS:∀a:Addr,a.block=K\/W.heap.size<=a.block->¬Shun (.cell a))(hB:W.heap.size<B)(hK:K<W.heap.size)(hc:W.cell? ⟨K,k,none⟩=some old)(hf:W.frozen? ⟨K,k,none⟩=false):
  Goes Zd true Zcy (DE (EvL Shun B)) (fun g w=>g=Kw (TJ n gv lv sv x9 Nc L8 L9 Lm Ln KO KL (DF K) (DF W.heap.size) R9 eG (.tuple #[.agg #[.int .i64 k,.slice va vn vc],.bool true]) (.bool true) (.agg #[.int .i64 k,.slice va vn vc]) (DF W.heap.size) (.int .i64 k) (.pointer (some ⟨W.heap.size,1,none⟩)) (.slice va vn vc) (.pointer (some ⟨K,k,none⟩))) cs/\∃d,w=((W.alloc (.cells #[.int .i64 k,.slice va vn vc] 209)).setCell ⟨K,k,none⟩ (.slice va vn vc)).at d) 30
   (Ma (TJ n gv lv sv x9 Nc L8 L9 Lm Ln KO KL (DF K) Rc R9 eG (.tuple #[.agg #[.int .i64 k,.slice va vn vc],.bool true]) UY Uw Ux Uy Uz UA UB) cs) W:=by
 have ND:∀o,(W.alloc o).cell? ⟨K,k,none⟩=some old:=fun o=>(zs (w:=W) (a:=⟨K,k,none⟩) (zJ _ _ _ hK)).trans hc;have Kx:∀o,(W.alloc o).frozen? ⟨K,k,none⟩=false:=fun o=>(ZdV (w:=W) (a:=⟨K,k,none⟩) (zJ _ _ _ hK)).trans hf;clear hc hf;simp only[Ma,TJ,DF,Qv,k13,L_,J0,J1,ME,KJ,G5,F5,Em,DD,DQ,BJ,zT,Zx];rcases hk with rfl|rfl
 all_goals
  have he1:=mU Zd;have he2:=fun a w es=>VP a w es 0 (.inl rfl);have he3:=fun a w es=>VP a w es 1 (.inr rfl)
  l_op
  l_c Zh
  l_c Zo
  l_cond true
  l_c Z3
  l_c Zbx
  l_c Zo
  l_reg
  l_op
  i_opw (fun h=>h)
  l_in
  refine zF rfl rfl (by decide) (fun K' hK'=>?_)
  go_simp
  refine hK' _ _ ⟨fun e he=>?_,?_⟩
  .have hm:=zX he
   simp[go_sem,YE, *]at hm;rcases hm with rfl|rfl
   .exact YP _ _ (hS _ (.inr (Zj _))) (by show W.heap.size<B;omega)
   .exact YP _ _ (hS _ (.inr (Zj _))) (by show W.heap.size<B;omega)
  clear hK' K'
  l_c Zh
  l_reg
  l_op
  i_opw (hS _ (by simp))
  l_op
  i_opw (hS _ (by simp))
  l_op
  i_opw (hS _ (.inl rfl))
  l_c Zh
  l_c stepG_inBlock
  l_c stepG_inLoop
  l_c Zo
  l_reg
  refine Z2 (fun w₁ BV=>?_);obtain⟨d,hd⟩:=BV;subst hd;simp only[alloc_at,setCell_at,at_at];refine⟨?_,_,rfl⟩;simp[Kw,DF,Qv,k13,L_,J0,J1,ME,KJ,G5,F5,Em,DD,DQ,BJ,zT]
end Go.Proofs.Fit
set_option linter.unusedSimpArgs false
namespace Go.Proofs.Fit
open Go Go.Conc Go.ConcX Go.RowKit Go.Conc.Lib Go.ConcX.Gen
def ai0:(Tryz.f159.name== "runtime.NumGoroutine")=false:=by kernel_rfl
def rA:Array Oper:=match G5 J1 with| .region _ ops _=>ops|_=> #[]
def cJ (T:Array Ze)(rest:List Nat):ZT:=(base 104).at ⟨T,[]⟩ (.inRegion rA rest:: [.code .ret])
def TK (n:Nat)(gv lv sv x9 Nc L8 L9 Lm Ln KO KL mS Rc R9 eG rz UY Uw Ux Uy Uz UA UB x30 x31:Ze):Array Ze:=
 #[gv,lv,sv,DF n,DF (n+1),DF (n+2),.slice none 0 0,DF (n+4),DF (n+5),x9,mS,Rc,.chan (some (n+3)),Nc,L8,L9,Lm,Ln,KO,KL,R9,eG,rz,UY,Uw,Ux,Uy,Uz,UA,UB,x30,x31]
def Xx (K:Nat)(w:Zc):(ZaO 210 (.pointer (some ⟨K,0,none⟩)) none none none).run Zd w=.ok (.slice (some ⟨K,0,none⟩) 2 2) w:=by
 unfold ZaO Zbn;simp[go_sem,ZbF,Zcz]
def Xy (K:Nat)(w:Zc)(es:Array zc):(ZaO 210 (.pointer (some ⟨K,0,none⟩)) none none none).events Zd w es=es:=by
 unfold ZaO Zbn;simp[go_sem,ZbF]
variable {Shun:Loc->Prop}
variable {c1 pb k Wg B n r K c b ln lc lo hi:Nat}
variable {W w₀ w w' wl w₁:Zc}
variable {KO KL gv lv sv x9 Nc L8 L9 Lm Ln Rc R9 eG UY Uw Ux Uy Uz UA UB v u:Ze}
variable {cs:List ZT}
def mV {z:Ze}:
  Goes Zd true Zcy (DE (EvL Shun B)) (fun g w=>g=G (Zq Zd 159 #[.slice (some ⟨K,0,none⟩) 2 2] .normal) (cJ (TK n gv lv sv x9 Nc L8 L9 Lm Ln KO KL (DF K) Rc R9 eG (.tuple #[z,.bool false]) (.bool false) Uw Ux Uy Uz UA UB (.slice (some ⟨K,0,none⟩) 2 2) Zf) [1,2]::cs)/\∃d,w=W.at d) 20
   (Ma (TJ n gv lv sv x9 Nc L8 L9 Lm Ln KO KL (DF K) Rc R9 eG (.tuple #[z,.bool false]) UY Uw Ux Uy Uz UA UB) cs) W:=by
 have h1:=Xx K;have h2:=Xy K;simp only[Ma,TJ,DF,Qv,k13,L_,J0,J1,ME,KJ,G5,F5,Em,DD,DQ,BJ,zT,Zx]
 l_op
 l_c Zh
 l_c Zo
 l_cond false
 l_in
 refine goes_exit rfl ?_;refine⟨by u_nil,?_⟩
 l_c Zo
 l_reg
 l_op
 l_call Tryz.func159 ai0 Tryz.f159
 refine Z2 (fun w₁ BV=>?_);obtain⟨d,hd⟩:=BV;subst hd;simp only[alloc_at,setCell_at,at_at];refine⟨?_,_,rfl⟩;have he:Zq Zd 159 #[.slice (some ⟨K,0,none⟩) 2 2] .normal=(base 159).at ⟨#[.slice (some ⟨K,0,none⟩) 2 2,Zf,Zf,Zf,Zf,Zf,Zf,Zf,Zf,Zf,Zf,Zf,Zf,Zf,Zf,Zf,Zf,Zf,Zf,Zf,Zf,Zf,Zf,Zf,Zf,Zf,Zf,Zf,Zf,Zf,Zf,Zf,Zf,Zf,Zf,Zf],[]⟩ [.code (Tryz.f159.body.getD .skip)]:=by
  simp[Zq,Frame.at,base,Tryz.func159,Tryz.f159]
 rw[he];simp[Tryz.f159,cJ,TK,DF,rA,J1,ME,KJ,G5,F5,Em,DD,DQ,BJ,zT]
def rB {mS rz x30 x31:Ze}{f':ZT}:
  Goes Zd true Zcy (DE (EvL Shun B)) (fun g w=>g=G (f'.finish v) cs/\∃d,w=W.at d) 10
   (G ((cJ (TK n gv lv sv x9 Nc L8 L9 Lm Ln KO KL mS Rc R9 eG rz UY Uw Ux Uy Uz UA UB x30 x31) [1,2]).finish v) (f'::cs)) W:=by
 simp only[cJ,TK,DF,rA,J1,ME,KJ,G5,F5,Em,DD,DQ,BJ,zT,Zx];rw[Frame.finish_at]
 walk_nrm
 l_op
 l_c Zh
 l_c Yf
 refine Goes.step rfl (fun w₁ BV=>?_);obtain⟨dd,Qo⟩:=BV;subst Qo;rw[stepG_leave (v:=v) (fn:=zT) rfl rfl Tryz.func104 (results_tmp Tryz.results104 _ _ _) (ZdU Tryz.results104 _ _)];simp only[goes_go];refine⟨by u_nil,?_⟩;refine Z2 (fun w₁ BV=>?_);obtain⟨d,hd⟩:=BV;subst hd;exact⟨rfl,d,rfl⟩
end Go.Proofs.Fit
namespace Go.FO
open Go Go.Conc
open Go.ConcN (sumTo upd sumTo_upd upd_ne upd_same Deaf_still)
section
variable {P:Zp}{Shun:Loc->Prop}{B:Nat}{a:Zi}
structure Lone (P:Zp)(Shun:Loc->Prop)(B:Nat)(a:Zi)(gs:Array Zi)(t:Y8)(q:Nat->Nat):Prop where
 main:gs[0]?=some a
 old:Leavers P t gs q
 past:Past Shun B t
def Qw (BD:a.status=.running):∀(M:Nat) (gs:Array Zi) (w:Zc) (sl:Option (Nat×Nat)) (t:Y8) (q:Nat->Nat),sumTo gs.size q<=M->Lone P Shun B a gs t q->
  ∃(N:Nat) (gs':Array Zi) (d:Nat) (Jm:Option (Nat×Nat)) (t':Y8) (q':Nat->Nat) (Hq:Nat) (DU:Option (Nat×Nat)),
   ZaI P N (Ys gs w sl) t=(.next (Ys gs' (w.at d) Jm),t')/\Lone P Shun B a gs' t' q'/\stepT P (Ys gs' (w.at d) Jm)=runT P (Ys gs' (w.at Hq) DU) 0:=by
 intro M
 induction M with
 |zero=>?_
 |succ M ih=>?_
 all_goals
  intro gs w sl t q hM hX;obtain⟨h0,hL,hP⟩:=hX;have haw:∀g∈gs,awake g:=by
   intro g hg;obtain⟨i,hi,rfl⟩:=ZbR.1 hg;rcases z7 i with rfl|E7
   .have:gs[0]=a:=by simpa[ZC hi]using h0
    rw[this];exact awake_of (.inl BD)
   .exact awake_of ((hL.old i _ E7 (ZC hi)).status.elim .inl fun x=>.inr (.inr x))
  obtain⟨i,g,d,Jm,hi,hg,B5⟩:=crowd_pick (P:=P) (w:=w) (sl:=sl) haw ⟨0,a,h0,BD⟩;rcases z7 i with rfl|E7
  .exact⟨0,gs,w.drawn,sl,t,q,d,Jm,rfl,⟨h0,hL,hP⟩,B5⟩
 .exfalso
  have AA:i<gs.size:=(Za.1 hi).1;have hq:=hL.old i g E7 hi;have:=sumTo_upd q 0 id AA;simp only[id]at this;have h1:(sumTo gs.size fun x=>q x)=sumTo gs.size q:=rfl;rw[h1]at this;have:q i=0:=by omega
  rw[this]at hq;rw[hq.1]at hg;cases hg
 .have hq:=hL.old i g E7 hi
  have hi0:(i==0)=false:=by simp;omega
  have AA:i<gs.size:=(Za.1 hi).1;cases qw:q i with
  |zero=>rw[qw]at hq;rw[hq.1]at hg;cases hg
  |succ k=>
   rw[qw]at hq;rcases hq with⟨hf,_⟩|⟨_,g',es,hm,qy,Q7⟩
   .rw[hf]at hg;cases hg
   have FQ:=Zb6 (P:=P) (sl:=Jm) (i:=i) hi (by rw[hi0];exact qy (w.at d));have Ek:((gs.map (woken P g g' (w.at d))).setIfInBounds i g').size=gs.size:=by simp
   have agA:sumTo gs.size (upd q i k)+(k+1)=sumTo gs.size q+k:=by
    have:=sumTo_upd q k id AA;simpa[qw]using this
   obtain⟨N,gs',d',qv,t',q',Hq,DU,hr,hX',hs⟩:=ih ((gs.map (woken P g g' (w.at d))).setIfInBounds i g') (w.at d) Jm (t++ZO i g.frame.fn g.frame.place es) (upd q i k) (by rw[Ek];omega)
    ⟨by
     have Bn:i≠0:=by omega
     rw[Zk Bn,zN,h0];simp[woken_run BD],
    ⟨fun j x hj hx=>by
     by_cases Ku:i=j
     .subst Ku
      rw[Z5 (by simpa using AA)]at hx;obtain rfl:=ZK hx;rw[upd_same,Deaf_own];exact Q7
     .rw[Zk Ku,zN]at hx
      obtain⟨y,hy,rfl⟩:=zf.1 hx;have hqj:=hL.old j y hj hy;rw[woken_quitsD hqj,upd_ne q k (Zbq Ku),Y9 t Ku _ (fun op hop=>by obtain⟨e,_,rfl⟩:=ZW hop;rfl)];exact hqj,fun j hj=>by
     rw[Y9 t (g':=i) (by simp at hj;omega) _ (fun op hop=>by obtain⟨e,_,rfl⟩:=ZW hop;rfl)];exact hL.above j (by simpa using hj)⟩,hP.mute (by omega) hm⟩
   exact⟨N+1,gs',d',qv,t',q',Hq,DU,by simp only[ZaI,B5,FQ];exact hr,hX',hs⟩
variable {gs:Array Zi}
variable {t:Y8}
variable {q:Nat->Nat}
def Lone.app {u:Y8}{a':Zi}(h:Lone P Shun B a gs t q)(hg:∀op∈u,op.g=0)(hn:∀op∈u,op.act.touch?=none)(hl:∀op∈u,op.act.low B)(hd:∀op∈u,op.act≠ .mark .disable/\op.act≠ .mark .enable):
  Lone P Shun B a' (gs.setIfInBounds 0 a') (t++u) q:=by
 have AA:0<gs.size:=(Za.1 h.main).1;refine⟨by simp[AA],⟨fun j x hj hx=>?_,fun j hj=>?_⟩,h.past.app0 hg (fun op hop b hb=>by rw[hn op hop]at hb;cases hb) (Deaf_still t 0 u hd) hl⟩
 .rw[Zk (by omega)]at hx
  rw[Deaf_still t j u hd];exact h.old.old j x hj hx
 .rw[Deaf_still t j u hd]
  exact h.old.above j (by simpa using hj)
def Lone.rC (h:Lone P Shun B a gs t q)(c:Nat)(send:Bool):partners (gs.setIfInBounds 0 ph) c send=[]:=by
 refine Go.Conc.partners_nil fun j g hj=>?_;rcases getElem?_stand gs 0 j g hj with⟨_,rfl⟩|⟨Bn,hg⟩
 .exact offersAt_ph _ _
 .refine offersAt_of_not_blocked ?_ _ _
  rcases(h.old.old j g (by omega) hg).status with hs|hs<;>rw[hs]<;>simp
section
variable {gs:Array Zi}{w:Zc}{sl:Option (Nat×Nat)}{t:Y8}{q:Nat->Nat}{PE:Zi}{c cap s r:Nat}{buf:Array Ze}{closed tm:Bool}{z:Ze}
def cK (BD:a.status=.running)(hX:Lone P Shun B a gs t q)(hs:∀d,zd P true a (w.at d)=.comm PE #[rcase c z] true (.recv true) (w.at d) #[])(hc:w.heap[c]?=some (.chan cap buf closed s r tm))(hb:0<buf.size)(hB:c<B):
  ∃N gs' d Jm t' q',ZaI P N (Ys gs w sl) t=(.next (Ys gs' ((w.setChan c cap (buf.extract 1 buf.size) closed s (r+1) tm).at d) Jm),t')/\Lone P Shun B (YZ PE (.tuple #[buf.getD 0 Zf,.bool true])) gs' t' q':=by
 obtain⟨N,C6,acG,C8,El,GY,Hq,DU,hr,Gy,B5⟩:=Qw BD _ gs w sl t q (Zj _) hX;have hT:=crowd_recv_buf (P:=P) (w:=w.at Hq) (w₁:=w.at Hq) (sl:=DU) (i:=0) Gy.main (hs Hq) (show(w.at Hq).heap[c]?=_ from hc) hb (Gy.rC c true);rw[finishComm_recv]at hT;refine⟨N+1,_,Hq,DU,_,GY,?_,Gy.app (a':=YZ PE (recvd true (buf.getD 0 Zf) true)) (u:=ZO 0 a.frame.fn a.frame.place #[]++ #[{g:=0,fn:=PE.frame.fn,pos:=PE.frame.place,act:=.recv c r cap}, {g:=0,fn:=PE.frame.fn,pos:=PE.frame.place,act:=.recvDone c r}]) ?_ ?_ ?_ ?_⟩
 .rw[runNT_add _ _ _ _ _ _ hr]
  simp only[ZaI,B5,hT]
  rfl
 all_goals
  intro op hop;simp[ZO]at hop;rcases hop with rfl|rfl
 all_goals first
  |rfl
  |exact hB
  |simp
def PF (BD:a.status=.running)(hX:Lone P Shun B a gs t q)(hs:∀d,zd P true a (w.at d)=.comm PE #[rcase c z] true (.recv true) (w.at d) #[])(hc:w.heap[c]?=some (.chan cap #[] true s r tm))(hB:c<B):
  ∃N gs' d Jm t' q',ZaI P N (Ys gs w sl) t=(.next (Ys gs' (w.at d) Jm),t')/\Lone P Shun B (YZ PE (.tuple #[z,.bool false])) gs' t' q':=by
 obtain⟨N,C6,acG,C8,El,GY,Hq,DU,hr,Gy,B5⟩:=Qw BD _ gs w sl t q (Zj _) hX;have hT:=crowd_recv_closed (P:=P) (w:=w.at Hq) (w₁:=w.at Hq) (sl:=DU) (i:=0) Gy.main (hs Hq) (show(w.at Hq).heap[c]?=_ from hc) (Gy.rC c true);rw[finishComm_recv]at hT;refine⟨N+1,_,Hq,DU,_,GY,?_,Gy.app (a':=YZ PE (recvd true z false)) (u:=ZO 0 a.frame.fn a.frame.place #[]++ #[{g:=0,fn:=PE.frame.fn,pos:=PE.frame.place,act:=.recvClosed c}]) ?_ ?_ ?_ ?_⟩
 .rw[runNT_add _ _ _ _ _ _ hr]
  simp only[ZaI,B5,hT]
 all_goals
  intro op hop;simp[ZO]at hop;subst hop
 all_goals first
  |rfl
  |exact hB
  |simp
variable {c1 pb k Wg n K b ln lc lo hi:Nat}
def Cl {D:Zc->Zc->Array zc->Prop}{St:Zi->Zc->Prop}(hD:∀w w' es,D w w' es->∀e∈es,EvL Shun B e)(hX:Lone P Shun B a gs t q)(hG:Goes P true Zcy D St n a w):
  ∃N gs' a' w' Jm t' q',ZaI P N (Ys gs w sl) t=(.next (Ys gs' w' Jm),t')/\St a' w'/\Lone P Shun B a' gs' t' q':=by
 obtain⟨N,gs',a',w',Jm,t',q',h1,h2,h3,h4,h5,h6⟩:=walk_beside (P:=P) hD _ n gs a w sl t q (Zj _) hX.main hX.old hX.past hG;exact⟨N,gs',a',w',Jm,t',q',h1,h4,h3,h5,h6⟩
end
end
end Go.FO
namespace Go.Proofs.Fit
open Go Go.Conc Go.FO Go.RowKit
variable {W w₀ w w' wl w₁:Zc}
variable {p:Addr}
variable {KO KL gv lv sv x9 Nc L8 L9 Lm Ln Rc R9 eG UY Uw Ux Uy Uz UA UB v u:Ze}
def Tq (h:w.cell? p=some v):∃c e f,w.heap[p.block]?=some (.cells c e f):=by
 unfold zG at h;cases ho:w.heap[p.block]? with
 |none=>rw[ho]at h;cases h
 |some o=>
  rw[ho]at h;cases o with
  |cells c e f=>exact⟨c,e,f,rfl⟩
  |_=>cases h
def Cx.back (h:Cx w w')(hc:w'.cell? p=some v):w.cell? p=some v:=by
 obtain⟨c,e,f,hb⟩:=Tq hc;have GZ:=(h.same _ _ _ _).1 hb;rw[<-hc];unfold zG;rw[hb,GZ]
def aav (b:Nat)(w:Zc)(err cL:Ze):Prop:=
 (err=.nilIface\/∃n:Int,err=.iface 121 (.agg #[.int .i64 n]))/\∃t n,cL=.iface 123 (.pointer (some ⟨t,0,none⟩))/\t<b/\w.heap[t]?=some (.cells #[.int .i64 n] 121 (0,0))/\0<b/\w.cell? ⟨0,0,none⟩=some (.iface 220 (.agg #[.pointer (some ⟨1,117,none⟩)]))
def PX (x:List zn)(w:Zc):Prop:=
 (∃gc la ln lc sv b rows fit y,x= {v:=Xq #[.agg gc,.slice la ln lc,sv,M_ b],recovered:=false}::y/\Na b w gc la ln lc sv rows fit)\/
 (∃err cL b y,x= {v:=Xq #[err,cL,M_ b],recovered:=false}::y/\aav b w err cL)
def PX.blind:Dk PX:=fun x w t h=>by
 rcases h with⟨gc,la,ln,lc,sv,b,rows,fit,y,e,h⟩|⟨err,cL,b,y,e,h⟩
 .exact .inl ⟨gc,la,ln,lc,sv,b,rows,fit,y,e,h.Aw fun _ _ _ h=>h⟩
 .exact .inr ⟨err,cL,b,y,e,h⟩
variable {y:List zn}
def MF {Q:Zp}{x:List zn}(h:(De Q).raise x=(De Q).raise y):x=y:=by
 have:=congrArg Frame.mode h;simpa[De,Za0]using this
section
variable {B:Ik}{fn:Func}{Post:Ze->Zc->Prop}{ρ:Ren}{f f':ZT}{cs cs':List ZT}{w:Zc}
variable {P:Zp}
variable {gc a gc':Array Ze}
def Tr (hl:B.lcs=[De Lp])(KF:B.K.seg=false)(hb:Dk Post)(E:Env Lp P ρ)(hS:Gr Lp P B ρ (f::cs) (f'::cs'))(hw:∃w',WR ρ w w'){k:ZaV}(hM:CE Lp B true (EN Lp B fn Post PX) (AV (Zq Lp k a .normal) (f::cs)) w)
 {X:Ze} (hc:Calls Lp k a (tp w fun _ _=>0) fun e w'=>e=.panicked [{v:=X,recovered:=false}]/\YS w.heap.size (tp w fun _ _=>0) w'):
  ∃w₂ y,PX ({v:=X,recovered:=false}::y) w₂/\E_ w.heap.size w₂ w/\∀t c e f,t<w.heap.size->w₂.heap[t]?=some (.cells c e f)->w.heap[t]?=some (.cells c e f):=by
 have K:Dq Lp B true (EN Lp B fn Post PX):=Jk hl hb PX.blind;have G:=Lc (P':=Lp) (fn:=fn) (Post:=Post) (PostX:=PX) hl;have hcs:cs≠ []:=by
  have:=hS.deep;rw[hl]at this;intro e;rw[e]at this;simp at this
 have Pl:Calls Lp k a (tp w fun _ _=>0) (jL (fun _ _=>False) fun x w'=>x=[{v:=X,recovered:=false}]/\YS w.heap.size (tp w fun _ _=>0) w'):=hc.mono fun e w' ⟨he,hb⟩=>by rw[he];exact⟨rfl,hb⟩
 rcases S6 G hcs (hM.Dz K.blind _) Pl with⟨_,_,hF,_⟩|⟨x,w₁,⟨rfl,G0⟩,hp⟩
 .exact hF.elim
 obtain⟨w',hw⟩:=hw;have hD:DW ρ w₁:=(hw.dw).Aw (fun b b' hb=>(hw.lt hb).1) (fun b hb=>G0.block b hb);obtain⟨w₂,y,ai1,B5⟩:=UQ K G.K9 hl KF (qK (P':=Lp)) E hS hM hp.Dz hD;rcases B5 with⟨ha,gp,_⟩|⟨x,hx,PG⟩
 .exfalso
  rw[hl]at gp;cases gp
 .have e: [{v:=X,recovered:=false}]++y=x:=MF (congrArg (fun g:Zi=>g.frame) hx)
  subst e;refine⟨w₂,y,PG,fun p v hp hc=>?_,fun t c e f ht hc=>?_⟩
  .have:=Cx.back ai1 hc
   rw[G0.cell hp]at this;exact this
  .have:=(ai1.same _ _ _ _).1 hc
   rw[G0.block t ht]at this;exact this
end
def ai2 (t:Array Ze)(h:t.size=3):∃a0 a1 a2,t= #[a0,a1,a2]:=by
 obtain⟨l⟩:=t
 match l,h with
 | [a0,a1,a2],_=>exact⟨a0,a1,a2,rfl⟩
def Ot {c c':Array Ze}{y':List zn}(h:({v:=Xq c,recovered:=false}:zn)::y= {v:=Xq c',recovered:=false}::y'):c=c':=by
 have h1:=congrArg PanicEntry.v (zV h).1;unfold Xq at h1
 injection h1 with _ h2
 injection h2
variable {c1 pb k Wg B n r K c b ln lc lo hi:Nat}
def Ts {b':Nat}(h:M_ b=M_ b'):b=b':=by
 unfold M_ at h
 injection h with h1
 injection h1 with h2
 injection h2
section
variable {B:Ik}{fn:Func}{Post:Ze->Zc->Prop}{ρ:Ren}{f f':ZT}{cs cs':List ZT}{w:Zc}
variable {P:Zp}
variable {gc a gc':Array Ze}
def acH (hl:B.lcs=[De Lp])(KF:B.K.seg=false)(hb:Dk Post)(E:Env Lp P ρ)(hS:Gr Lp P B ρ (f::cs) (f'::cs'))(hw:∃w',WR ρ w w')(ha:a.size=3)(hM:CE Lp B true (EN Lp B fn Post PX) (AV (Zq Lp 104 a .normal) (f::cs)) w):
  ∃gc la ln lc sv rows fit,a= #[.agg gc,.slice la ln lc,sv]/\Na w.heap.size w gc la ln lc sv rows fit:=by
 obtain⟨g,l,s,rfl⟩:=ai2 a ha;have hc:=Th g l s (tp w fun _ _=>0) (by show((((zS 1 0 3).cut 0:Nat):Int)==1)=true;decide);obtain⟨w₂,y,PG,o_,_⟩:=Tr hl KF hb E hS hw hM hc;rcases PG with⟨gc,la,ln,lc,sv,b,rows,fit,y',e,h⟩|⟨err,cL,b,y',e,_⟩
 .have e4:=congrArg ZbI (Ot e)
  obtain⟨e1,e5⟩:=zV e4;obtain⟨e2,e6⟩:=zV e5;obtain⟨e3,e7⟩:=zV e6;have e8:=Ts (zV e7).1;have e9:(tp w fun _ _=>0).heap.size=w.heap.size:=rfl;rw[e9]at e8;subst e1 e2 e3 e8;refine⟨gc,la,ln,lc,s,rows,fit,rfl,⟨h.small,h.cap,h.j6,fun i hi=>?_,h.row,h.rh,fun i hi w₁ Oc=>h.fits i hi w₁ fun p v hp hc=>Oc p v hp (o_ p v hp hc)⟩⟩;obtain⟨ad,h1,h2,h3⟩:=h.there i hi;exact⟨ad,h1,h2,o_ _ _ (by rw[CM];exact h2) h3⟩
 .exfalso
  have:=congrArg Array.size (Ot e);simp at this
variable {la:Option Addr}
variable {fit:Nat->Bool}
def ko (hl:B.lcs=[De Lp])(hb:Dk Post)(Kv:B.lcs.length<(f::cs).length){rows:Nat->Ze}(H:Na w.heap.size w gc la ln lc sv rows fit)
 (hM:CE Lp B true (EN Lp B fn Post PX) (AV (Zq Lp 104 #[.agg gc,.slice la ln lc,sv] .normal) (f::cs)) w) (hk:(C_ rows fit 0 ln).length<=k) (hkm:k<=maxLen):
  ∃v w₁,YS w.heap.size w w₁/\((C_ rows fit 0 ln).length=0->v=.slice none 0 0)/\(0<(C_ rows fit 0 ln).length->∃r,v=.slice (some ⟨r,0,none⟩) (C_ rows fit 0 ln).length k/\w.heap.size<=r/\Room w₁ r k (C_ rows fit 0 ln))/\
   CP Lp B true (AV (Zq Lp 104 #[.agg gc,.slice la ln lc,sv] .normal) (f::cs)) w (AV (f.finish v) cs) w₁:=by
 have K:Dq Lp B true (EN Lp B fn Post PX):=Jk hl hb PX.blind;have G:=Lc (P':=Lp) (fn:=fn) (Post:=Post) (PostX:=PX) hl
 let T:Tape:=fun _ q=>match q with| .appendCap _ _ e=>if e=3 then 1 else k - (C_ rows fit 0 ln).length|_=>0
 have hc:=cC (w:=tp w T) (H.Aw (w₁:=tp w T) fun _ _ _ h=>h) (by show((((zS 1 0 3).cut 1:Nat):Int)==1)=false;decide);have Pl:Calls Lp 104 #[.agg gc,.slice la ln lc,sv] (tp w T) (jL (fun v w₁=>YS w.heap.size (tp w T) w₁/\((C_ rows fit 0 ln).length=0->v=.slice none 0 0)/\(0<(C_ rows fit 0 ln).length->∃r,v=.slice (some ⟨r,0,none⟩) (C_ rows fit 0 ln).length k/\w.heap.size<=r/\Room w₁ r k (C_ rows fit 0 ln))) fun _ _=>False):=hc.mono fun e w' h=>by
  obtain⟨w₁,h1,h2,h3⟩:=h;rcases z7 (C_ rows fit 0 ln).length with hz|hp
  .obtain⟨rfl,rfl⟩:=h2 hz
   exact⟨h1,fun _=>rfl,fun h=>absurd h (by omega)⟩
  .obtain⟨rfl,rfl⟩:=h3 hp
   have ht:w₁.tape=T:=h1.tape;have hg:grownCap w₁ (C_ rows fit 0 ln).length 0 22=k:=by
    unfold grownCap;rw[ht];show(C_ rows fit 0 ln).length+(k - (C_ rows fit 0 ln).length) % (2^63 - (C_ rows fit 0 ln).length)=k;have Gx:maxLen=9223372036854775807:=rfl;rw[Nat.mod_eq_of_lt (by omega)];omega
   rw[hg];refine⟨(h1.drew).alloc h1.size _,fun h=>absurd h (by omega),fun _=>⟨w₁.heap.size,rfl,h1.size,hk,?_⟩⟩;have e:=heap_alloc_new w₁.drew (.cells ((C_ rows fit 0 ln).toArray++Zs #[.slice none 0 0] (k - (C_ rows fit 0 ln).length)) 22);rw[<-I7];exact e
 obtain⟨v,w₁,⟨h1,h2,h3⟩,hp⟩:=EE G Lp.func104 rfl Kv (hM.Dz K.blind T) Pl;exact⟨v,tp w₁ w.tape,⟨h1.os,rfl,h1.output,h1.size,h1.block⟩,h2,h3,(hp w.tape).Dz⟩
end
end Go.Proofs.Fit
namespace Go.Proofs.Fit
open Go Go.Conc Go.FO Go.Pair Go.RowKit
open Go.ConcN (WgLive)
variable {ρ σ:Ren}
variable {W w₀ w w' wl w₁:Zc}
variable {KO KL gv lv sv x9 Nc L8 L9 Lm Ln Rc R9 eG UY Uw Ux Uy Uz UA UB v u:Ze}
def WR.aaw (h:WR ρ w w'){a a':Addr}(ha:AR ρ a a')(hv:w.cell? a=some v):∃v',w'.cell? a'=some v'/\VR ρ v v':=by
 obtain⟨aB,h2⟩:=h.lW;obtain⟨b,c⟩:=ha;obtain⟨o,o',p1,p2,p3⟩:=h.obj _ _ b;obtain⟨oo,oo',q1,q2,q3⟩:=h2.obj _ _ b;unfold zG at*;rw[p1]at hv;rw[p2];cases p3 with
 | @cells x x' e f f' hx hf=>
  dsimp only at hv⊢;rw[c.1,c.2];split at hv
  .cases hv
  .rw[if_neg ‹_›]
   exact hx.get hv
 |_=>cases hv
variable {e:Zr}
def mW {c:Array Ze}:CF (EX w (.cells c e (0,c.size))) w.heap.size:=by
 refine⟨e,c.size,?_,fun off ho=>?_⟩
 .unfold Yx
  rw[IA]
 .unfold Yy
  rw[IA];simp;omega
variable {c1 pb k Wg B n r K c b ln lc lo hi:Nat}
def gr {o:Obj}(h:CF w b\/∃q,Quiet q/\w.heap[b]?=some q):CF (EX w o) b\/∃q,Quiet q/\(EX w o).heap[b]?=some q:=by
 rcases h with h|⟨q,h1,h2⟩
 .exact .inl (bP h)
 .exact .inr ⟨q,h1,by rw[Iz w o (Za.1 h2).1];exact h2⟩
def wG (h:ρ.QV r c):(ρ.ext r c h) r=some c:=if_pos rfl
def Xz (h:ρ.QV r c){d:Nat}(hb:(ρ.ext r c h) b=some d):ρ b=some d\/(b=r/\d=c):=by
 have h':(if b=r then some c else ρ b)=some d:=hb;split at h'
 .cases h';exact .inr ⟨‹_›,rfl⟩
 .exact .inl h'
variable {gc a gc':Array Ze}
def Ou (h:WR ρ wl w₀)(hr:wl.heap.size=r)(anM:∀b,ρ b≠some c)(hlr:ρ.ok.low<r)(hlc:ρ.ok.low<c){a':Array Ze}{f:Nat×Nat}(hc:w₀.heap[c]?=some (.cells a' e f))(hf:f.2<=f.1)(ha:B1 ρ a a')
 (S9:∀b d,ρ b=some d->CF wl b\/∃o,Quiet o/\wl.heap[b]?=some o):
  ∃(ρ1:Ren) (wl1:Zc),WR ρ1 wl1 w₀/\wl1.heap.size=r+1/\(∀b,b<r->wl1.heap[b]?=wl.heap[b]?)/\wl1.heap[r]?=some (.cells a e (0,a.size))/\ρ.le ρ1/\ρ1 r=some c/\(∀b d,ρ1 b=some d->ρ b=some d\/(b=r/\d=c))/\
   ∀b d,ρ1 b=some d->CF wl1 b\/∃o,Quiet o/\wl1.heap[b]?=some o:=by
 subst hr;have f1:ρ.QV wl.heap.size c:=⟨anM,hlr,hlc⟩;refine⟨ρ.ext _ _ f1,EX wl (.cells a e (0,a.size)),h.push f1 hc (.cells _ (ha.mono (W_ h f1)) (.inr (.inl hf))),WZ _ _,fun b hb=>Iz _ _ hb,IA _ _,W_ h f1,wG f1,fun b d hb=>Xz f1 hb,fun b d hb=>?_⟩;rcases Xz f1 hb with hb|⟨rfl,rfl⟩
 .exact gr (S9 b d hb)
 .exact .inl mW
structure aay (ρ:Ren)(w wl:Zc)(VQ:Ren)(gc:Array Ze)(la:Option Addr)(ln lc:Nat)(sv:Ze)(k n pb s0:Nat):Prop where
 size:wl.heap.size=s0+4/\s0=w.heap.size
 old:∀b:Nat,b<w.heap.size->wl.heap[b]?=(bO w).heap[b]?
 hl:wl.heap[s0]?=some (.cells #[.slice la ln lc] 27 (0,1))
 hp:wl.heap[s0+1]?=some (.cells #[.int .i64 k] 3 (0,1))
 hg:wl.heap[s0+2]?=some (.cells gc 112 (0,gc.size))
 hs:wl.heap[s0+3]?=some (.cells #[sv] 23 (0,1))
 sub:∀b c,ρ b=some c->VQ b=some c
 ok:VQ.ok=okW
 good:VQ.good=Bi Zd okW B3 false
 sp:VQ.sp=fun _=>false
 nl:VQ s0=some (n+1)
 np:VQ (s0+1)=some pb
 ng:VQ (s0+2)=some n
 ns:VQ (s0+3)=some (n+2)
 only:∀b c,VQ b=some c->ρ b=some c\/c=n+1\/c=pb\/c=n\/c=n+2
 lock:∀b c,VQ b=some c->CF wl b\/∃o,Quiet o/\wl.heap[b]?=some o
variable {la:Option Addr}
def cM (JN:ρ.ok=Oh)(hw:WR ρ w w'){eZ:Option Addr}{sv':Ze}(Oq:B1 ρ gc gc')(qu:VR ρ (.slice la ln lc) (.slice eZ ln lc))(hsv:VR ρ sv sv')(hn:w'.heap.size<=n)(hR:∀b,(∃a,ρ a=some b)->w₀.heap[b]?=w'.heap[b]?)(UC:w₀.os=w'.os)(h0:∃f,w₀.heap[n]?=some (.cells gc' 112 f)/\f.2<=f.1)(h1:∃f,w₀.heap[n+1]?=some (.cells #[.slice eZ ln lc] 27 f)/\f.2<=f.1)
 (h2:∃f,w₀.heap[n+2]?=some (.cells #[sv'] 23 f)/\f.2<=f.1) (hpb:w₀.heap[pb]?=some (.cells #[.int .i64 k] 3 (0,0))) (hpn:n+2<pb):
  ∃wl VQ,WR VQ wl w₀/\aay ρ w wl VQ gc la ln lc sv k n pb w.heap.size:=by
 have Jt:=hw.lt ρ.base;have Rx:okW.low=ρ.ok.low:=by rw[JN];rfl
 let gu:=ρ.with okW (Bi Zd okW B3 false) (fun _=>false) Rx
 have hw0:WR gu (bO w) w':=WR.S8 (fun f hf=>by rw[JN]at hf;exact hf) hw;have anN:WR gu (bO w) w₀:=⟨fun b c hb=>by
  obtain⟨o,o',p1,p2,p3⟩:=hw0.obj b c hb;exact⟨o,o',p1,by rw[hR c ⟨b,hb⟩];exact p2,p3⟩,UC.trans hw0.os⟩
 have wH:ρ.sub gu:=S7 (ρ:=ρ) (good:=Bi Zd okW B3 false) (sp:=fun _=>false) (hl:=Rx) (fun f hf=>by rw[JN]at hf;exact hf);have img:∀b c,gu b=some c->c<n:=fun b c hb=>Zm (hw.lt hb).2 hn;have isz:(bO w).heap.size=w.heap.size:=qE w;have ai4:gu.ok.low=ρ.ok.low:=Rx;have ai5:∀b d,gu b=some d->CF (bO w) b\/∃o,Quiet o/\(bO w).heap[b]?=some o:=fun b d hb=>qF (ρ:=ρ) hw hb;have anO:∀b c,ρ b=some c->gu b=some c:=wH.map;have ai6:∀b c,gu b=some c->ρ b=some c:=fun b c h=>h;have acK:gu.ok=okW/\gu.good=Bi Zd okW B3 false/\gu.sp=fun _=>false:=⟨rfl,rfl,rfl⟩;have anP:=qu.sub wH;have anQ:=B1.sub wH Oq;have anR:=hsv.sub wH;generalize gu=gu at*;obtain⟨fl,Kt,WL⟩:=h1;obtain⟨fg,G2,hfg⟩:=h0;obtain⟨fs,D5,hfs⟩:=h2;have KE:∀x:Nat,gu.ok.low<w.heap.size+x:=fun x=>by rw[ai4];omega
 have O4:gu.ok.low<n:=by rw[ai4];omega
 obtain⟨ρ1,wl1,w1,z1,anS,at1,le1,anU,inv1,ai7⟩:=Ou (a:= #[.slice la ln lc]) anN isz (c:=n+1) (fun b hb=>by have:=img _ _ hb;omega) (KE 0) (by omega) Kt WL (BG.single anP) ai5;have i1:∀b c,ρ1 b=some c->c<n\/c=n+1:=fun b c hb=>(inv1 b c hb).elim (fun h=>.inl (img _ _ h)) fun h=>.inr h.2;obtain⟨ρ2,wl2,w2,z2,ai8,at2,le2,anV,inv2,ai9⟩:=Ou (a:= #[.int .i64 k]) w1 z1 (c:=pb) (fun b hb=>by have:=i1 _ _ hb;omega) (by rw[le1.2.1];exact KE 1) (by rw[le1.2.1];omega) hpb (Zj _) (BG.single (.int _ _)) ai7;have i2:∀b c,ρ2 b=some c->c<n\/c=n+1\/c=pb:=fun b c hb=>(inv2 b c hb).elim (fun h=>(i1 _ _ h).imp id .inl) fun h=>.inr (.inr h.2);have wI:=Ren.le_trans le1 le2;obtain⟨ρ3,wl3,w3,z3,acM,at3,le3,anX,aia,aib⟩:=Ou (a:=gc) w2 z2 (c:=n) (fun b hb=>by have:=i2 _ _ hb;omega) (by rw[wI.2.1];exact KE 2) (by rw[wI.2.1];omega) G2 hfg (anQ.mono wI) ai9;have i3:∀b c,ρ3 b=some c->c<n\/c=n+1\/c=pb\/c=n:=fun b c hb=>(aia b c hb).elim (fun h=>(i2 _ _ h).imp id (Or.imp id .inl)) fun h=>.inr (.inr (.inr h.2));have wJ:=Ren.le_trans wI le3;obtain⟨VQ,wl4,w4,z4,wK,at4,le4,anY,anZ,aic⟩:=Ou (a:= #[sv]) w3 z3 (c:=n+2) (fun b hb=>by have:=i3 _ _ hb;omega) (by rw[wJ.2.1];exact KE 3) (by rw[wJ.2.1];omega) D5 hfs (BG.single (anR.mono wJ)) aib;have wM:=Ren.le_trans wJ le4;refine⟨wl4,VQ,w4,⟨z4,rfl⟩,fun b hb=>?_,?_,?_,?_,at4,fun b c hb=>wM.1 _ _ (anO _ _ hb),?_,?_,?_,?_,?_,le4.1 _ _ anX,anY,fun b c hb=>?_,aic⟩
 .rw[wK b (by omega),acM b (by omega),ai8 b (by omega),anS b hb]
 .rw[wK _ (by omega),acM _ (by omega),ai8 _ (by omega)];exact at1
 .rw[wK _ (by omega),acM _ (by omega)];exact at2
 .rw[wK _ (by omega)];exact at3
 .rw[wM.2.1];exact acK.1
 .rw[wM.2.2.1];exact acK.2.1
 .rw[wM.2.2.2];exact acK.2.2
 .exact le4.1 _ _ (le3.1 _ _ (le2.1 _ _ anU))
 .exact le4.1 _ _ (le3.1 _ _ anV)
 .rcases anZ b c hb with hb|⟨_,rfl⟩
  .rcases aia b c hb with hb|⟨_,rfl⟩
   .rcases inv2 b c hb with hb|⟨_,rfl⟩
    .rcases inv1 b c hb with hb|⟨_,rfl⟩
     .exact .inl (ai6 _ _ hb)
     .exact .inr (.inl rfl)
    .exact .inr (.inr (.inl rfl))
   .exact .inr (.inr (.inr (.inl rfl)))
  .exact .inr (.inr (.inr (.inr rfl)))
def kp (wl:Zc)(p lo hi:Nat)(rows:Nat->Ze)(fit:Nat->Bool):Ze->Zc->Prop:=fun v w=>
 ∃v6,v=.tuple #[v6,ptr p]/\Tj wl.heap.size lo hi rows fit v6 w/\∀b,b<wl.heap.size->w.heap[b]?=wl.heap[b]?
variable {fit:Nat->Bool}
def kp.blind {p:Nat}{rows:Nat->Ze}:Dk (kp wl p lo hi rows fit):=fun _ _ _ h=>h
def XA (lo hi:Nat->Nat)(A5:Nat->Ze)(fit:Nat->Bool)(ρ:Ren)(k:Nat):Gu:=fun S v w=>
 ∃(σ:Ren) (wl:Zc) (a A:Option Addr) (c:Nat),v=.agg #[.int .i64 k,.slice A (C_ A5 fit (lo k) (hi k)).length c]/\σ.ok=okW/\WR σ wl w/\(∀b c,σ b=some c->S c)/\(∀b c,ρ b=some c->σ b=some c)/\
  VR σ (.slice a (C_ A5 fit (lo k) (hi k)).length c) (.slice A (C_ A5 fit (lo k) (hi k)).length c)/\
  ∀j u,(C_ A5 fit (lo k) (hi k))[j]?=some u->∃ad,A=some ad/\(∃b,σ b=some ad.block)/\w.cell? (ad.add j)=some u
variable {A5:Nat->Ze}
variable {S:Nat->Prop}
def XA.rely {lo hi:Nat->Nat}(h:XA lo hi A5 fit ρ k S v w)(r:D_ S w w₁):XA lo hi A5 fit ρ k S v w₁:=by
 obtain⟨σ,wl,a,A,c,h1,h2,h3,h4,h5,h6,h7⟩:=h;refine⟨σ,wl,a,A,c,h1,h2,h3.rely (S:=fun c=>∃b,σ b=some c) (fun c=>Iff.rfl) ⟨fun c ⟨b,hb⟩=>r.same c (h4 b c hb),r.size,r.os⟩,h4,h5,h6,fun j u hu=>?_⟩;obtain⟨ad,e1,⟨b,e2⟩,e3⟩:=h7 j u hu;exact⟨ad,e1,⟨b,e2⟩,(zs (by rw[CM];exact r.same _ (h4 b _ e2))).trans e3⟩
def Ov {rows:Nat->Ze}{j:Nat}(h:(C_ rows fit lo hi)[j]?=some u):∃i,lo<=i/\i<hi/\u=rows i/\∀A5:Nat->Ze,(C_ A5 fit lo hi)[j]?=some (A5 i):=by
 unfold C_ at h;rw[zU]at h;obtain⟨i,hi1,rfl⟩:=zf.1 h;have hm:=(List.mem_filter.1 (Z8 hi1)).1;rw[List.mem_range']at hm;obtain⟨x,hx,rfl⟩:=hm;refine⟨_,by omega,by omega,rfl,fun A5=>?_⟩;unfold C_;rw[zU,hi1]
 rfl
def R_ (rows A5:Nat->Ze)(fit:Nat->Bool)(lo hi:Nat):(C_ rows fit lo hi).length=(C_ A5 fit lo hi).length:=by simp[C_]
def VR.Gz {a:Option Addr}{x:Ze}(h:VR σ (.slice a n c) x):∃A,x=.slice A n c/\O1 σ a A:=by
 cases h with
 |slice _ _ h=>exact⟨_,rfl,h⟩
def WR.kq (h:WR ρ w w'){o:Nat}(hb:ρ b=some c)(hv:w.cell? ⟨b,o,none⟩=some v):∃v',w'.cell? ⟨c,o,none⟩=some v'/\VR ρ v v':=WR.aaw h (a:=⟨b,o,none⟩) (a':=⟨c,o,none⟩) ⟨hb,rfl,rfl⟩ hv
def add0 (g j:Nat):(⟨g,0,none⟩:Addr).add j=⟨g,j,none⟩:=by
 unfold Zcz;by_cases h:j=0<;>simp[h]
section
variable {ρ VQ:Ren}{w wl w₀:Zc}{gc:Array Ze}{la:Option Addr}{ln lc:Nat}{sv:Ze}{k n pb s0:Nat}{rows A5:Nat->Ze}{fit:Nat->Bool}{T₀:Nat->Prop}
def XB (hw:WR VQ wl w₀)(hb:aay ρ w wl VQ gc la ln lc sv k n pb s0)(hk:k<2)(H:Na w.heap.size w gc la ln lc sv rows fit)
 (hR:∀i,i<ln->VR ρ (rows i) (A5 i)) (hvo:∀f,ρ.ok f=true->okW f=true)
 (hT:∀b c,VQ b=some c->T₀ c) (AA:∀b,T₀ b->b<w₀.heap.size) (UZ:w₀.heap[pb]?=some (.cells #[.int .i64 k] 3 (0,0))) (hf:w₀.cell? ⟨n+4,0,none⟩=some (.chan (some (n+3)))) (hfT:T₀ (n+4))
 (hWg:¬T₀ (n+5)) (acj:n+5<w₀.heap.size) (Li:WgLive 206 (n+5) w₀):
  Bf Zd false 206 (n+5) T₀ (Pair.AtSend Zd 206 (n+5) (n+3) (XA (fun k=>k*ln / 2) (fun k=>(k+1)*ln / 2) A5 fit ρ k)) T₀ (born Zd (call156 (n+5) (n+1) pb n (n+2) (n+4))) w₀:=by
 have Fp:s0=w.heap.size:=hb.size.2;subst Fp;have hcell:∀ {wl:Zc} {b:Nat} {x:Ze} {e:Zr} {f:Nat×Nat},wl.heap[b]?=some (.cells #[x] e f)->wl.cell? ⟨b,0,none⟩=some x:=fun h=>by unfold zG;rw[h];rfl
 have H':Na w.heap.size wl gc la ln lc sv rows fit:=H.Aw fun p v hp hc=>by
  rw[<-hc, <-qG w p];exact zs (hb.old _ hp)
 have MH:=fun t=>anF (wl:=tp wl t) (b:=w.heap.size) (l:=w.heap.size) (p:=w.heap.size+1) (g:=w.heap.size+2) (s:=w.heap.size+3) (fz:=(0,gc.size)) (H'.Aw (w₁:=tp wl t) fun _ _ _ h=>h) (by show w.heap.size<=wl.heap.size;rw[hb.size.1];omega) k hk (hcell hb.hl) (hcell hb.hp) hb.hg (hcell hb.hs);have hW:=worker (Wg:=n+5) (Ch:=n+3) (f:=n+4) (T₀:=T₀) AK.twins (AK.ahK hb.ok hb.good hb.sp) hb.sp AK.lW (by rw[hb.ok];exact ack) hb.nl hb.np hb.ng hb.ns hw (Post:=kp wl (w.heap.size+1) (k*ln / 2) ((k+1)*ln / 2) rows fit) kp.blind
  (fun t=>(MH t).mono fun e w' h=>by
   obtain⟨v,rfl,h1,h2⟩:=h;exact⟨v,rfl,h1,fun b hb=>h2.block b hb⟩)
  (fun v w' h b o _ ho=>by
   obtain⟨_,_,_,h3⟩:=h;rw[h3 b (Za.1 ho).1];exact ho)
  (fun v6 v2 w' h=>by
   obtain⟨v,e,h2,_⟩:=h;have e4:=congrArg ZbI (Zdt e);obtain⟨e1,e5⟩:=zV e4;obtain⟨e2,_⟩:=zV e5;subst e1 e2;rcases h2.2 with⟨rfl,_⟩|⟨g,cap,_,rfl,_⟩
   .exact⟨rfl,_,_,_,rfl⟩
   .exact⟨rfl,_,_,_,rfl⟩)
  hb.lock hT AA (k:=k) (hcell UZ) hf hfT hWg acj Li
 refine hW.imp fun S g w₁ h=>?_;obtain⟨h0,Bw,v,z,h1,h2,h3⟩:=h;refine⟨h0,Bw,v,z,h1,?_,h3⟩;obtain⟨σ,G8,v6,v2,v6',rfl,q1,q2,q3,q4,q5,q6,q7⟩:=h2;obtain⟨v,e,p2,p3⟩:=q6;have e4:=congrArg ZbI (Zdt e);obtain⟨e1,e5⟩:=zV e4;subst e1;clear e e4 e5;have sub:ρ.sub σ:=⟨fun b c KC=>q1.1 b c (hb.sub b c KC),fun f hf=>by rw[q1.2.1,hb.ok];exact hvo f hf⟩;have JN:σ.ok=okW:=q1.2.1.trans hb.ok;have Cr:∀i,i<ln->VR σ (rows i) (A5 i):=fun i hi=>(hR i hi).sub sub;rcases p2.2 with⟨rfl,hz⟩|⟨g,cap,cur,rfl,ks,XC,hg3,hg4,hg5,hg6⟩
 .obtain⟨A,rfl,hA⟩:=VR.Gz q5
  rw[R_ rows A5]at hz;refine⟨σ,G8,none,A,0,?_,JN,q4,q7,sub.map,?_,fun j u hu=>?_⟩
  .rw[hz]
  .rw[hz];exact q5
  .dsimp only at hu
   have:=(Zl.1 hu).1;omega
 .obtain⟨A,rfl,hA⟩:=VR.Gz q5
  cases A with
  |none=>exact hA.elim
  |some A=>
  obtain⟨gw,U0,pf⟩:=hA;obtain⟨ab,ao,aq⟩:=A;dsimp only at gw U0 pf;subst U0 pf;rw[R_ rows A5]at q5;refine⟨σ,G8,some ⟨g,0,none⟩,some ⟨ab,0,none⟩,cap,?_,JN,q4,q7,sub.map,q5,fun j u hu=>?_⟩
  .rw[R_ rows A5]
  .dsimp only at hu
   obtain⟨i,i1,i2,rfl,i4⟩:=Ov hu;have aid:i<ln:=by
    have:(k+1)*ln / 2<=ln:=by
     have:k=0\/k=1:=by omega
     rcases this with rfl|rfl<;>omega
    omega
   have hj:(cur.toList.take ((C_ rows fit (k*ln / 2) ((k+1)*ln / 2)).length*1))[j]?=some (rows i):=by rw[hg6];exact i4 rows
   have hjl:=(Zl.1 hj).1;rw[List.length_take]at hjl;rw[ZV (by omega)]at hj;have hc:G8.cell? ⟨g,j,none⟩=some (rows i):=by
    rw[cell_of_row G8 g j cur 22 (0,0) XC];rw[<-hj];simp
   obtain⟨x,x1,x2⟩:=WR.kq q4 gw hc;obtain⟨ra,rn,rc,hr⟩:=H.row i aid;have hri:=Cr i aid;rw[hr]at x2 hri;have e:=VR.Pn x2 hri;subst e;exact⟨⟨ab,0,none⟩,rfl,⟨g,gw⟩,by rw[add0];exact x1⟩
end
end Go.Proofs.Fit
set_option linter.unusedSimpArgs false
namespace Go.Proofs.Fit
open Go Go.Conc Go.FO Go.RowKit
def XD:Ze:=.agg #[.int .i64 0,.slice none 0 0]
section
variable {n:Nat}{gv lv sv x9 Nc L8 L9 Lm Ln KO KL mS Rc R9 rz UY Uw Ux Uy Uz UA UB:Ze}{cs:List ZT}
def VS (w:Zc):zd Zd true (Kw (TJ n gv lv sv x9 Nc L8 L9 Lm Ln KO KL mS Rc R9 (.chan (some (n+3))) rz UY Uw Ux Uy Uz UA UB) cs) w=
  .comm (Kw (TJ n gv lv sv x9 Nc L8 L9 Lm Ln KO KL mS Rc R9 (.chan (some (n+3))) rz UY Uw Ux Uy Uz UA UB) cs) #[rcase (n+3) XD] true (.recv true) w #[]:=by
 unfold Kw;simp only[Qv,k13,L_,J0,J1,ME,KJ,G5,F5,Em,DD,DQ,BJ,zT,Zx];rw[stepG_comm (w':=w) (cases:= #[rcase (n+3) XD]) (blocking:=true) (shape:=.recv true) rfl rfl (by decide) (by simp[go_sem,TJ,rcase,XD,ZdJ,ZcB])];simp[listed,go_sem,TJ,ZdJ,ZcB,seen]
def Qx (v:Ze):YZ (Kw (TJ n gv lv sv x9 Nc L8 L9 Lm Ln KO KL mS Rc R9 (.chan (some (n+3))) rz UY Uw Ux Uy Uz UA UB) cs) v=
  Ma (TJ n gv lv sv x9 Nc L8 L9 Lm Ln KO KL mS Rc R9 (.chan (some (n+3))) v UY Uw Ux Uy Uz UA UB) cs:=by
 unfold Kw Ma;rw[VJ];simp[Qv,J0,ME,KJ,G5,F5,Em,DD,DQ,BJ,zT,TJ,Zcp]
end
structure Drn (W0:Zc)(n K:Nat)(w:Zc)(buf:Array Ze)(a b:Ze)(sz:Nat):Prop where
 size:w.heap.size=sz/\K<sz
 old:∀c,c<K->c≠n+3->w.heap[c]?=W0.heap[c]?
 chan:∃s r tm,w.heap[n+3]?=some (.chan 2 buf true s r tm)
 kept:w.heap[K]?=some (.cells #[a,b] 210 (0,0))
 os:w.os=W0.os
 tape:w.tape=W0.tape
 output:w.output=W0.output
def wN (k:Nat)(v a b:Ze):Ze×Ze:=if k=0 then(v,b) else(a,v)
section
variable {Shun:Loc->Prop}{B n K k:Nat}{W0 W:Zc}{gv lv sv x9 Nc L8 L9 Lm Ln KO KL Rc R9 rz UY Uw Ux Uy Uz UA UB a b:Ze}{va:Option Addr}{vn vc sz:Nat}{buf:Array Ze}{cs:List ZT}{gs:Array Zi}{t:Y8}{q:Nat->Nat}{sl:Option (Nat×Nat)}
def Mb (hX:Lone Zd Shun B (Kw (TJ n gv lv sv x9 Nc L8 L9 Lm Ln KO KL (DF K) Rc R9 (.chan (some (n+3))) rz UY Uw Ux Uy Uz UA UB) cs) gs t q)(hk:k=0\/k=1)
 (hS:∀p:Addr,K<=p.block->¬Shun (.cell p)) (hB:sz<B) (hn:n+3<K) (hD:Drn W0 n K W buf a b sz) (hb:buf[0]?=some (.agg #[.int .i64 k,.slice va vn vc])):
  ∃N gs' w' Jm t' q' y11 y22 y23 y24 y25 y26 y27 y28 y29,ZaI Zd N (Ys gs W sl) t=(.next (Ys gs' w' Jm),t')/\Lone Zd Shun B (Kw (TJ n gv lv sv x9 Nc L8 L9 Lm Ln KO KL (DF K) y11 R9 (.chan (some (n+3))) y22 y23 y24 y25 y26 y27 y28 y29) cs) gs' t' q'/\
   Drn W0 n K w' (buf.extract 1 buf.size) (wN k (.slice va vn vc) a b).1 (wN k (.slice va vn vc) a b).2 (sz+1):=by
 obtain⟨s,r,tm,hc⟩:=hD.chan;have hbs:0<buf.size:=(Za.1 hb).1;have hbd:buf.getD 0 Zf=.agg #[.int .i64 k,.slice va vn vc]:=by rw[Yz,hb];rfl
 obtain⟨N,C6,d,C8,El,GY,hr,Gy⟩:=cK (sl:=sl) (c:=n+3) rfl hX (fun d=>VS (W.at d)) hc hbs (by have:=hD.size;omega);rw[hbd,Qx]at Gy;have kt:K≠n+3:=by omega
 have pj:((W.setChan (n+3) 2 (buf.extract 1 buf.size) true s (r+1) tm).at d).heap[K]?=some (.cells #[a,b] 210 (0,0)):=by
  rw[<-hD.kept];exact Zk (by omega)
 have hz:((W.setChan (n+3) 2 (buf.extract 1 buf.size) true s (r+1) tm).at d).heap.size=sz:=(size_setChan _ _ _ _ _ _ _ _).trans hD.size.1;have jE:∀c,c≠n+3->((W.setChan (n+3) 2 (buf.extract 1 buf.size) true s (r+1) tm).at d).heap[c]?=W.heap[c]? :=fun c hc=>Zk (Zbq hc);have NC:((W.setChan (n+3) 2 (buf.extract 1 buf.size) true s (r+1) tm).at d).heap[n+3]?=some (.chan 2 (buf.extract 1 buf.size) true s (r+1) tm):=Z5 (Za.1 hc).1;have UC:((W.setChan (n+3) 2 (buf.extract 1 buf.size) true s (r+1) tm).at d).os=W0.os/\((W.setChan (n+3) 2 (buf.extract 1 buf.size) true s (r+1) tm).at d).tape=W0.tape/\((W.setChan (n+3) 2 (buf.extract 1 buf.size) true s (r+1) tm).at d).output=W0.output:=⟨hD.os,hD.tape,hD.output⟩;generalize (W.setChan (n+3) 2 (buf.extract 1 buf.size) true s (r+1) tm).at d=W1 at*;have hcell:∃old,W1.cell? ⟨K,k,none⟩=some old:=by
  rcases hk with rfl|rfl
  .exact⟨a,by unfold zG;rw[pj];rfl⟩
  .exact⟨b,by unfold zG;rw[pj];rfl⟩
 obtain⟨old,hcell⟩:=hcell;have hfz:W1.frozen? ⟨K,k,none⟩=false:=by unfold Yy;rw[pj];simp
 have Ek:=hD.size;obtain⟨M0,Jn,PE,w₂,DU,Iq,UO,FR,⟨rfl,Hq,rfl⟩,Lq⟩:=Cl (sl:=C8) (fun _ _ _ h=>h) Gy (gq (Shun:=Shun) (B:=B) (W:=W1) hk (fun p hp=>hS p (by rcases hp with hp|hp<;>omega)) (by omega) (by omega) hcell hfz);refine⟨N+M0,Jn,_,DU,Iq,UO,_,_,_,_,_,_,_,_,_,by rw[Go.FO.runNT_add _ _ _ _ _ _ hr];exact FR,Lq,?_⟩;have hh:∀c,c<sz->c≠K->(((W1.alloc (.cells #[.int .i64 k,.slice va vn vc] 209)).setCell ⟨K,k,none⟩ (.slice va vn vc)).at Hq).heap[c]?=W1.heap[c]? :=fun c h1 h2=>by
  show((W1.alloc _).setCell _ _).heap[c]?=_;rw[Zab _ _ _ _ h2,zJ _ _ _ (by omega)]
 refine⟨⟨?_,by omega⟩,fun c h1 h2=>?_,⟨s,r+1,tm,?_⟩,?_,UC.1,UC.2.1,UC.2.2⟩
 .show((W1.alloc _).setCell _ _).heap.size=_
  simp[zb,hz]
 .rw[hh c (by omega) (by omega),jE c h2,hD.old c h1 h2]
 .rw[hh _ (by omega) (by omega)];exact NC
 .show((W1.alloc _).setCell _ _).heap[K]?=_
  unfold zb;have e:(W1.alloc (.cells #[.int .i64 k,.slice va vn vc] 209)).heap[K]?=some (.cells #[a,b] 210 (0,0)):=by rw[zJ _ _ _ (by omega)];exact pj
  simp only[Zac,if_pos,e,Zdz];rcases hk with rfl|rfl<;>rfl
variable {c1 pb Wg r c ln lc lo hi:Nat}
variable {tm:Bool}
def drain {A0 A1:Option Addr}{n0 n1 c0:Nat}{ord:List Nat}{vals:Nat->Ze}(hX:Lone Zd Shun B (Xu n pb gv lv sv cs) gs t q)(mE:ord=[0,1]\/ord=[1,0])
 (aD:vals 0=.agg #[.int .i64 0,.slice A0 n0 c0]) (XE:vals 1=.agg #[.int .i64 1,.slice A1 n1 c1]) (qN:W.heap[n+3]?=some (.chan 2 (ord.map vals).toArray false 2 0 tm)) (hc:W.cell? ⟨n+4,0,none⟩=some (.chan (some (n+3))))
 (hS:∀p:Addr,p.block=n+4\/W.heap.size<=p.block->¬Shun (.cell p)) (hB:W.heap.size+3<=B):
  ∃N gs' w' Jm t' q' T,ZaI Zd N (Ys gs W sl) t=(.next (Ys gs' w' Jm),t')/\Lone Zd Shun B (AV (Zq Zd 159 #[.slice (some ⟨W.heap.size,0,none⟩) 2 2] .normal) (cJ T [1,2]::cs)) gs' t' q'/\
   (∃y9 y10 y11 y13 y14 y15 y16 y17 y18 y19 y20 y21 y22 y23 y24 y25 y26 y27 y28 y29 y30 y31,T=TK n gv lv sv y9 y13 y14 y15 y16 y17 y18 y19 y10 y11 y20 y21 y22 y23 y24 y25 y26 y27 y28 y29 y30 y31)/\
   Drn W n W.heap.size w' #[] (.slice A0 n0 c0) (.slice A1 n1 c1) (W.heap.size+3):=by
 have AA:n+4<W.heap.size:=Zy W _ hc;obtain⟨N,C6,fN,w₁,C8,El,GY,ku,⟨rfl,acG,rfl⟩,Gy⟩:=Cl (sl:=sl) (fun _ _ _ h=>h) hX (gm (pb:=pb) (Shun:=Shun) (B:=B) (W:=W) (fun p hp=>hS p (.inl hp)) (by omega) (by omega) hc qN AA);have hz:((W.setChan (n+3) 2 (ord.map vals).toArray true 2 0 tm)).heap.size=W.heap.size:=size_setChan _ _ _ _ _ _ _ _;have hD:Drn W n W.heap.size (((W.setChan (n+3) 2 (ord.map vals).toArray true 2 0 tm).alloc (.cells #[.slice none 0 0,.slice none 0 0] 210)).at acG) (ord.map vals).toArray (.slice none 0 0) (.slice none 0 0) (W.heap.size+1):=by
  refine⟨⟨?_,by omega⟩,fun c h1 h2=>?_,⟨2,0,tm,?_⟩,?_,rfl,rfl,rfl⟩
  .show((W.setChan _ _ _ _ _ _ _).alloc _).heap.size=_
   simp[hz]
  .show((W.setChan _ _ _ _ _ _ _).alloc _).heap[c]?=_
   rw[zJ _ _ _ (by rw[hz];exact h1)];exact Zk (Zbq h2)
  .show((W.setChan _ _ _ _ _ _ _).alloc _).heap[n+3]?=_
   rw[zJ _ _ _ (by rw[hz];omega)];exact Z5 (by omega)
  .show((W.setChan _ _ _ _ _ _ _).alloc _).heap[W.heap.size]?=_
   rw[<-hz];exact ZaA
 have BD:∀ {N M:Nat} {x y z:Machine} {t El Iq:Y8},ZaI Zd N x t=(.next y,El)->ZaI Zd M y El=(.next z,Iq)->ZaI Zd (N+M) x t=(.next z,Iq):=fun h k=>by rw[Go.FO.runNT_add _ _ _ _ _ _ h];exact k
 have wa:∀p:Addr,W.heap.size<=p.block->¬Shun (.cell p):=fun p hp=>hS p (.inr hp);have MV:∀ {N:Nat} {Jn:Array Zi} {w₂:Zc} {DU:Option (Nat×Nat)} {Iq:Y8} {UO:Nat->Nat} {z9 z13 z14 z15 z16 z17 z18 z19 z11 z20 z22 z23 z24 z25 z26 z27 z28 z29:Ze},ZaI Zd N (Ys gs W sl) t=(.next (Ys Jn w₂ DU),Iq)->
   Lone Zd Shun B (Kw (TJ n gv lv sv z9 z13 z14 z15 z16 z17 z18 z19 (DF W.heap.size) z11 z20 (.chan (some (n+3))) z22 z23 z24 z25 z26 z27 z28 z29) cs) Jn Iq UO->Drn W n W.heap.size w₂ #[] (.slice A0 n0 c0) (.slice A1 n1 c1) (W.heap.size+3)->
   ∃N gs' w' Jm t' q' T,ZaI Zd N (Ys gs W sl) t=(.next (Ys gs' w' Jm),t')/\Lone Zd Shun B (AV (Zq Zd 159 #[.slice (some ⟨W.heap.size,0,none⟩) 2 2] .normal) (cJ T [1,2]::cs)) gs' t' q'/\
   (∃y9 y10 y11 y13 y14 y15 y16 y17 y18 y19 y20 y21 y22 y23 y24 y25 y26 y27 y28 y29 y30 y31,T=TK n gv lv sv y9 y13 y14 y15 y16 y17 y18 y19 y10 y11 y20 y21 y22 y23 y24 y25 y26 y27 y28 y29 y30 y31)/\
   Drn W n W.heap.size w' #[] (.slice A0 n0 c0) (.slice A1 n1 c1) (W.heap.size+3):=by
  intro N Jn w₂ DU Iq UO z9 z13 z14 z15 z16 z17 z18 z19 z11 z20 z22 z23 z24 z25 z26 z27 z28 z29 FR Lq Iy;obtain⟨s,r,tm,aaB⟩:=Iy.chan;obtain⟨lY,rD,ao1,cO,qB,acW,Jg,VT⟩:=PF (sl:=DU) (c:=n+3) rfl Lq (fun d=>VS (w₂.at d)) aaB (by omega);rw[Qx]at VT;obtain⟨air,bG,ao2,Lh,bH,qD,vR,S3,⟨rfl,ais,rfl⟩,cP⟩:=Cl (sl:=cO) (fun _ _ _ h=>h) VT (mV (Shun:=Shun) (B:=B) (W:=w₂.at ao1));exact⟨_,bG,_,bH,qD,vR,_,BD FR (BD Jg S3),cP,⟨_,_,_,_,_,_,_,_,_,_,_,_,_,_,_,_,_,_,_,_,_,_,rfl⟩,⟨Iy.size,Iy.old,⟨s,r,tm,aaB⟩,Iy.kept,Iy.os,Iy.tape,Iy.output⟩⟩
 rcases mE with rfl|rfl
 .obtain⟨M0,Jn,w₂,DU,Iq,UO,_,_,_,_,_,_,_,_,_,FR,Lq,Iy⟩:=Mb (sl:=C8) Gy (k:=0) (.inl rfl) wa (by omega) (by omega) hD (va:=A0) (vn:=n0) (vc:=c0) (by simp[aD])
  obtain⟨lY,rD,D9,cO,qB,acW,_,_,_,_,_,_,_,_,_,Jg,VT,bF⟩:=Mb (sl:=DU) Lq (k:=1) (.inr rfl) wa (by omega) (by omega) Iy (va:=A1) (vn:=n1) (vc:=c1) (by simp[XE]);exact MV (BD ku (BD FR Jg)) VT (by simpa[wN]using bF)
 .obtain⟨M0,Jn,w₂,DU,Iq,UO,_,_,_,_,_,_,_,_,_,FR,Lq,Iy⟩:=Mb (sl:=C8) Gy (k:=1) (.inr rfl) wa (by omega) (by omega) hD (va:=A1) (vn:=n1) (vc:=c1) (by simp[XE])
  obtain⟨lY,rD,D9,cO,qB,acW,_,_,_,_,_,_,_,_,_,Jg,VT,bF⟩:=Mb (sl:=DU) Lq (k:=0) (.inl rfl) wa (by omega) (by omega) Iy (va:=A0) (vn:=n0) (vc:=c0) (by simp[aD]);exact MV (BD ku (BD FR Jg)) VT (by simpa[wN]using bF)
end
end Go.Proofs.Fit
namespace Go.Proofs.Fit
open Go Go.Conc Go.FO Go.Pair Go.RowKit
open Go.ConcN (WgLive)
open Go.ConcR (WgAt)
def rE (a0 a1 a2:Ze)(cs:List ZT):AV (Zq Zd 104 #[a0,a1,a2] .normal) cs=G ((base 104).at ⟨#[a0,a1,a2,Zf,Zf,Zf,Zf,Zf,Zf,Zf,Zf,Zf,Zf,Zf,Zf,Zf,Zf,Zf,Zf,Zf,Zf,Zf,Zf,Zf,Zf,Zf,Zf,Zf,Zf,Zf,Zf,Zf],[]⟩ [.code BJ]) cs:=by
 simp[AV,G,Zq,Frame.at,base,BJ,Tryz.func104,zT]
def Sx (S:Nat->Prop)(n:Nat):Nat->Prop:=fun b=>S b\/b=n\/b=n+1\/b=n+2\/b=n+4
structure Laid (w' W:Zc)(n:Nat)(gc':Array Ze)(lv sv:Ze):Prop where
 size:W.heap.size=n+6/\w'.heap.size=n
 old:∀b,b<n->W.heap[b]?=w'.heap[b]?
 g:W.heap[n]?=some (.cells gc' 112 (0,0))
 l:W.heap[n+1]?=some (.cells #[lv] 27 (0,0))
 s:W.heap[n+2]?=some (.cells #[sv] 23 (0,0))
 ch:W.heap[n+3]?=some (.chan 2 #[] false 0 0 false)
 chb:W.heap[n+4]?=some (.cells #[.chan (some (n+3))] 197 (0,0))
 wg:W.heap[n+5]?=some (.cells #[.int .u64 0,.int .u32 0] 206 (0,0))
 os:W.os=w'.os
 tape:W.tape=w'.tape
 output:W.output=w'.output
def wO (w':Zc)(gc':Array Ze)(lv sv:Ze):Laid w' (W1 w' gc' lv sv) w'.heap.size gc' lv sv:=by
 have hs:∀(w:Zc) (o:Obj),(w.alloc o).heap.size=w.heap.size+1:=fun w o=>by simp
 have hn:∀(w:Zc) (o:Obj),(w.alloc o).heap[w.heap.size]?=some o:=fun w o=>ZaA;have ho:∀(w:Zc) (o:Obj) (b:Nat),b<w.heap.size->(w.alloc o).heap[b]?=w.heap[b]? :=fun w o b h=>zJ _ _ _ h;unfold W1;refine⟨⟨by simp only[hs],rfl⟩,fun b hb=>?_,?_,?_,?_,?_,?_,?_,rfl,rfl,rfl⟩
 .rw[ho _ _ _ (by simp only[hs];omega),ho _ _ _ (by simp only[hs];omega),ho _ _ _ (by simp only[hs];omega),ho _ _ _ (by simp only[hs];omega),ho _ _ _ (by simp only[hs];omega),ho _ _ _ (by omega)]
 .rw[ho _ _ _ (by simp only[hs];omega),ho _ _ _ (by simp only[hs];omega),ho _ _ _ (by simp only[hs];omega),ho _ _ _ (by simp only[hs];omega),ho _ _ _ (by simp only[hs];omega)]
  exact hn _ _
 .rw[ho _ _ _ (by simp only[hs];omega),ho _ _ _ (by simp only[hs];omega),ho _ _ _ (by simp only[hs];omega),ho _ _ _ (by simp only[hs];omega)]
  have:=hn (w'.alloc (.cells gc' 112)) (.cells #[lv] 27);rwa[hs]at this
 .rw[ho _ _ _ (by simp only[hs];omega),ho _ _ _ (by simp only[hs];omega),ho _ _ _ (by simp only[hs];omega)]
  have:=hn ((w'.alloc (.cells gc' 112)).alloc (.cells #[lv] 27)) (.cells #[sv] 23);rwa[hs,hs]at this
 .rw[ho _ _ _ (by simp only[hs];omega),ho _ _ _ (by simp only[hs];omega)]
  have:=hn (((w'.alloc (.cells gc' 112)).alloc (.cells #[lv] 27)).alloc (.cells #[sv] 23)) (.chan 2 #[] false 0 0 false);rwa[hs,hs,hs]at this
 .rw[ho _ _ _ (by simp only[hs];omega)]
  have:=hn ((((w'.alloc (.cells gc' 112)).alloc (.cells #[lv] 27)).alloc (.cells #[sv] 23)).alloc (.chan 2 #[] false 0 0 false)) (.cells #[.chan (some (w'.heap.size+3))] 197);rwa[hs,hs,hs,hs]at this
 .have:=hn (((((w'.alloc (.cells gc' 112)).alloc (.cells #[lv] 27)).alloc (.cells #[sv] 23)).alloc (.chan 2 #[] false 0 0 false)).alloc (.cells #[.chan (some (w'.heap.size+3))] 197)) (.cells #[.int .u64 0,.int .u32 0] 206)
  rwa[hs,hs,hs,hs,hs]at this
variable {W w₀ w w' wl w₁:Zc}
variable {c1 pb k Wg B n r K c b ln lc lo hi:Nat}
variable {gc a gc':Array Ze}
variable {KO KL gv lv sv x9 Nc L8 L9 Lm Ln Rc R9 eG UY Uw Ux Uy Uz UA UB v u:Ze}
def Laid.at (h:Laid w' W n gc' lv sv)(d:Nat):Laid w' (W.at d) n gc' lv sv:=⟨h.size,h.old,h.g,h.l,h.s,h.ch,h.chb,h.wg,h.os,h.tape,h.output⟩
variable {A5:Nat->Ze}
variable {fit:Nat->Bool}
variable {ρ σ:Ren}
def wP {lo hi:Nat->Nat}:Jq 206 Wg (XA lo hi A5 fit ρ):=fun _ _ _ _ _ h r=>h.rely r.base
abbrev UD (ln:Nat):Nat->Nat:=fun k=>k*ln / 2
abbrev Qy (ln:Nat):Nat->Nat:=fun k=>(k+1)*ln / 2
section
variable {S:Nat->Prop}{ρ:Ren}{w w':Zc}{gs:Array Zi}{sl:Option (Nat×Nat)}{t:Y8}{q:Nat->Nat}{Shun:Loc->Prop}{gc gc':Array Ze}{la eZ uE:Option Addr}{ln lc sn sc:Nat}{sv:Ze}{cs':List ZT}{rows A5:Nat->Ze}{fit:Nat->Bool}
def mY (X:Ctx Zd S (AV (Zq Zd 104 #[.agg gc',.slice eZ ln lc,.slice uE sn sc] .normal) cs') w' gs t q Shun)(hS:∀c,S c↔∃b,ρ b=some c)(JN:ρ.ok=Oh)(hw:WR ρ w w')
 (Oq:B1 ρ gc gc') (qu:VR ρ (.slice la ln lc) (.slice eZ ln lc)) (hsv:VR ρ sv (.slice uE sn sc)) (H:Na w.heap.size w gc la ln lc sv rows fit) (hR:∀i,i<ln->VR ρ (rows i) (A5 i)):
  ∃N C6 W w₁ C8 El,ZaI Zd N (Ys gs w' sl) t=(.next (Ys C6 w₁ C8),El)/\Laid w' W w'.heap.size gc' (.slice eZ ln lc) (.slice uE sn sc)/\
   Joined Zd (w'.heap.size+3) (w'.heap.size+5) (XA (UD ln) (Qy ln) A5 fit ρ) Shun (ki w'.heap.size (.agg gc') (.slice eZ ln lc) (.slice uE sn sc) cs') (Sx S w'.heap.size) (Sx S w'.heap.size) W C6 w₁ El:=by
 have EP:∀b,S b->b<w'.heap.size:=fun b hb=>(X.held b hb).1;have Tt:∀p:Addr,w'.heap.size<=p.block->¬Shun (.cell p):=fun p hp hs=>by
  obtain⟨a,e,h⟩:=X.bE _ hs;cases e;omega
 have hX:Lone Zd Shun (w'.heap.size+6) (AV (Zq Zd 104 #[.agg gc',.slice eZ ln lc,.slice uE sn sc] .normal) cs') gs t q:=⟨X.main,X.old,X.past.mono (by omega)⟩;rw[rE]at hX;obtain⟨N,C6,fN,W,C8,El,GY,hr,⟨rfl,d,rfl⟩,Gy⟩:=Cl (sl:=sl) (fun _ _ _ h=>h) hX (ri (Shun:=Shun) Tt);have hL:=(wO w' gc' (.slice eZ ln lc) (.slice uE sn sc)).at d;generalize (W1 w' gc' (.slice eZ ln lc) (.slice uE sn sc)).at d=W at*;have Ek:=hL.size;generalize hn:w'.heap.size=n at*;have hSx:∀b,Sx S n b->b<n+6:=by
  rintro b (h|h|h|h|h)
  .have:=EP b h;omega
  all_goals omega
 have vW:=cI (S:=Sx S n) (L:=Sx S n) (n:=n) (gv:=.agg gc') (lv:=.slice eZ ln lc) (sv:=.slice uE sn sc) (cs:=cs') (Pay:=XA (UD ln) (Qy ln) A5 fit ρ) W ⟨0,0,hL.wg⟩ (by omega) (fun h=>by
   rcases h with h|h|h|h|h
   .have:=EP _ h;omega
   all_goals omega) (fun b hb=>by have:=hSx b hb;omega) (fun b hb=>by have:=hSx b hb;omega)
  (fun k pb S' aB hk wQ WX hS3 hS4 acX Li UZ hpb=>by
   have Nb:∀b,Sx S n b->aB.heap[b]?=W.heap[b]? :=acX.same;obtain⟨wl,VQ,h1,h2⟩:=cM (k:=k) (n:=n) (pb:=pb) (w₀:=aB) JN hw Oq qu hsv (by omega) (fun b ⟨a,hb⟩=>by
     have GZ:S b:=(hS b).2 ⟨a,hb⟩;rw[Nb b (.inl GZ),hL.old b (EP b GZ)]) (acX.os.trans hL.os) ⟨(0,0),(Nb n (.inr (.inl rfl))).trans hL.g,Zj _⟩ ⟨(0,0),(Nb _ (.inr (.inr (.inl rfl)))).trans hL.l,Zj _⟩ ⟨(0,0),(Nb _ (.inr (.inr (.inr (.inl rfl))))).trans hL.s,Zj _⟩ UZ (by omega)
   refine XB (T₀:=S') h1 h2 hk H hR (fun f hf=>by rw[JN]at hf;exact hf) (fun b c KC=>?_) hS4 UZ ?_ (wQ _ (.inr (.inr (.inr (.inr rfl))))) (fun h=>?_) ?_ Li
   .rcases h2.only b c KC with h|rfl|rfl|rfl|rfl
    .exact wQ _ (.inl ((hS c).2 ⟨b,h⟩))
    .exact wQ _ (.inr (.inr (.inl rfl)))
    .exact WX
    .exact wQ _ (.inr (.inl rfl))
    .exact wQ _ (.inr (.inr (.inr (.inl rfl))))
   .refine(zs (a:=⟨n+4,0,none⟩) (Nb _ (.inr (.inr (.inr (.inr rfl)))))).trans ?_
    unfold zG;rw[hL.chb];rfl
   .rcases hS3 _ h with h|h
    .rcases h with h|h|h|h|h
     .have:=EP _ h;omega
     all_goals omega
    .omega
   .have:=acX.size;omega)
 obtain⟨M0,Jn,w₂,DU,Iq,FR,hJ⟩:=fU (sl:=C8) (q:=GY) (Shun:=Shun) wP Tn UX cH Gy.main Gy.old (by rw[Ek.1];exact Gy.past) (fun b hb=>⟨by have:=hSx b hb;omega,fun a ha hs=>by
   rcases hb with hb|hb
   .exact(X.held b hb).2 a ha hs
   .exact Tt a (by omega) hs⟩) (fun l hl=>by obtain⟨a,e,h⟩:=X.bE l hl;exact⟨a,e,by omega⟩) (fun h=>by
   rcases h with h|h|h|h|h
   .have:=EP _ h;omega
   all_goals omega) (fun h=>by
   rcases h with h|h|h|h|h
   .have:=EP _ h;omega
   all_goals omega) (by omega) hL.wg hL.ch (fun l ⟨a,e,h⟩ hs=>by subst e;exact Tt a (by omega) hs) (fun b hb=>by have:=hSx b hb;omega) vW
 exact⟨N+M0,Jn,W,w₂,DU,Iq,by rw[Go.FO.runNT_add _ _ _ _ _ _ hr];exact FR,hL,hJ⟩
end
end Go.Proofs.Fit
namespace Go.Proofs.Fit
open Go Go.Conc Go.FO Go.Pair Go.RowKit
def kz (wl:Zc)(xs:List Ze)(v:Ze)(w:Zc):Prop:=
 (∀b,b<wl.heap.size->w.heap[b]?=wl.heap[b]?)/\(xs.length=0->v=.slice none 0 0)/\(0<xs.length->∃r c,v=.slice (some ⟨r,0,none⟩) xs.length c/\wl.heap.size<=r/\c<=maxLen/\Room w r c xs)
variable {W w₀ w w' wl w₁:Zc}
def kz.blind {xs:List Ze}:Dk (kz wl xs):=fun _ _ _ h=>h
variable {fit:Nat->Bool}
variable {c1 pb k Wg B n r K c b ln lc lo hi:Nat}
variable {KO KL gv lv sv x9 Nc L8 L9 Lm Ln Rc R9 eG UY Uw Ux Uy Uz UA UB v u:Ze}
def XF {rows:Nat->Ze}(h:u∈C_ rows fit lo hi):∃i,lo<=i/\i<hi/\u=rows i:=by
 obtain⟨j,hj⟩:=List.getElem?_of_mem h;obtain⟨i,h1,h2,h3,_⟩:=Ov hj;exact⟨i,h1,h2,h3⟩
section
variable {ρ:Ren}{w w' w₁ w₂:Zc}{n K ln:Nat}{rows A5:Nat->Ze}{fit:Nat->Bool}{S T0 T1:Nat->Prop}{A0 A1:Option Addr}{v0 v1:Ze}{n0 n1 c0 c1 sz:Nat}
def Tu (ρ uF uG:Ren)(K:Nat):Nat->Prop:=fun c=>(∃b,ρ b=some c)\/(∃b,uF b=some c)\/(∃b,uG b=some c)\/c=K
def gy (JN:ρ.ok=Oh)(hw:WR ρ w w')(Tl:ln<=1000000)(Cr:∀i,i<ln->∃a n c,rows i=.slice a n c)(hR:∀i,i<ln->VR ρ (rows i) (A5 i))
 (Ru:∀b c,ρ b=some c->w₂.heap[c]?=w'.heap[c]?) (hKK:w₂.heap[K]?=some (.cells #[v0,v1] 210 (0,0)))
 (P0:XA (UD ln) (Qy ln) A5 fit ρ 0 T0 (.agg #[.int .i64 0,v0]) w₁) (mZ:∀b,T0 b->w₂.heap[b]?=w₁.heap[b]?) (P1:XA (UD ln) (Qy ln) A5 fit ρ 1 T1 (.agg #[.int .i64 1,v1]) w₁) (Mr:∀b,T1 b->w₂.heap[b]?=w₁.heap[b]?) {c':ZT} {cs':List ZT}:
  ∃D:Nat->Prop,(∀b c,ρ b=some c->D c)/\(∀c,D c->c=K\/(∃b,ρ b=some c)\/T0 c\/T1 c)/\
   aC Zd true D (fun S g w=>∃v',g=AV (c'.finish v') cs'/\((C_ A5 fit 0 ln).length=0->v'=.slice none 0 0)/\
    (0<(C_ A5 fit 0 ln).length->∃r k cs f,v'=.slice (some ⟨r,0,none⟩) (C_ A5 fit 0 ln).length k/\(C_ A5 fit 0 ln).length<=k/\w₂.heap.size<=r/\k<=maxLen/\S r/\w.heap[r]?=some (.cells cs 22 f)/\f.2<=f.1/\cs=(C_ A5 fit 0 ln).toArray++YD (k - (C_ A5 fit 0 ln).length) UW)) D
    (AV (Zq Zd 159 #[.slice (some ⟨K,0,none⟩) 2 2] .normal) (c'::cs')) w₂:=by
 obtain⟨uF,wl0,a0,A0,c0,e0,k0,w0R,s0,i0,V0,C0⟩:=P0;obtain⟨uG,wl1,a1,A1,c1,e1,k1,w1R,s1,i1,V1,C1⟩:=P1;have f0:v0=.slice A0 (C_ A5 fit (UD ln 0) (Qy ln 0)).length c0:=by
  have:=congrArg ZbI (Value.agg.inj e0);exact(zV (zV this).2).1
 have f1:v1=.slice A1 (C_ A5 fit (UD ln 1) (Qy ln 1)).length c1:=by
  have:=congrArg ZbI (Value.agg.inj e1);exact(zV (zV this).2).1
 have hl:Tu ρ uF uG K okW.low:=.inl ⟨_,by have:=ρ.base;rw[JN]at this;exact this⟩
 let aG:=Ren.Xa (Tu ρ uF uG K) okW (Bi Zd okW B3 false) (fun _=>false) hl
 have ait:ρ.Gs aG:=Pp (fun b c hb=>.inl ⟨b,hb⟩) (fun f hf=>by rw[JN]at hf;exact hf);have on0:uF.Gs aG:=Pp (fun b c hb=>.inr (.inl ⟨b,hb⟩)) (fun f hf=>by rw[k0]at hf;exact hf);have on1:uG.Gs aG:=Pp (fun b c hb=>.inr (.inr (.inl ⟨b,hb⟩))) (fun f hf=>by rw[k1]at hf;exact hf);have aaC:VR aG v0 v0:=by rw[f0];exact V0.M1 on0
 have aaD:VR aG v1 v1:=by rw[f1];exact V1.M1 on1
 have rF:∀i,i<ln->VR aG (A5 i) (A5 i):=fun i hi=>by
  obtain⟨a,m,c,h⟩:=Cr i hi;have:=hR i hi;rw[h]at this;exact this.M1 ait
 have aiu:∀i,i<ln->(A5 i).oneCell'=true:=fun i hi=>by
  obtain⟨a,m,c,h⟩:=Cr i hi;have:=hR i hi;rw[h]at this;obtain⟨A,hA,_⟩:=VR.Gz this;rw[hA];rfl
 have acY:∀c,Tu ρ uF uG K c->∃o,w₂.heap[c]?=some o/\OR aG (Dw aG o) o:=by
  rintro c (⟨b,hb⟩|⟨b,hb⟩|⟨b,hb⟩|rfl)
  .obtain⟨o,o',p1,p2,p3⟩:=hw.obj b c hb
   exact⟨o',(Ru b c hb).trans p2,p3.Gs ait⟩
  .obtain⟨o,o',p1,p2,p3⟩:=w0R.obj b c hb
   exact⟨o',(mZ c (s0 b c hb)).trans p2,p3.Gs on0⟩
  .obtain⟨o,o',p1,p2,p3⟩:=w1R.obj b c hb
   exact⟨o',(Mr c (s1 b c hb)).trans p2,p3.Gs on1⟩
  .refine⟨_,hKK,?_⟩
   refine .cells 210 ⟨by simp,fun i v y h1 h2=>?_⟩ (RA _ _);rw[zN,h2]at h1;cases h1;refine Po ?_
   match i,h2 with
   |0,h2=>cases h2;exact⟨_,aaC⟩
   |1,h2=>cases h2;exact⟨_,aaD⟩
 have hWC:WR aG (snap aG w₂) w₂:=qH acY;have hKl:K<w₂.heap.size:=(Za.1 hKK).1;have pk:∀c,Tu ρ uF uG K c->c<w₂.heap.size:=fun c hc=>by
  obtain⟨o,h,_⟩:=acY c hc;exact(Za.1 h).1
 have q0:(snap aG w₂).cell? ⟨K,0,none⟩=some (.slice A0 (C_ A5 fit (UD ln 0) (Qy ln 0)).length c0):=by
  rw[<-f0];exact Jo (by unfold zG;rw[hKK];rfl) aaC
 have q1:(snap aG w₂).cell? ⟨K,1,none⟩=some (.slice A1 (C_ A5 fit (UD ln 1) (Qy ln 1)).length c1):=by
  rw[<-f1];exact Jo (by unfold zG;rw[hKK];rfl) aaD
 have r0:Lj (snap aG w₂) A0 (C_ A5 fit (UD ln 0) (Qy ln 0)):=fun j u hu=>by
  obtain⟨ad,h1,⟨b,h2⟩,h3⟩:=C0 j u hu;obtain⟨i,i1,i2,rfl,_⟩:=Ov hu;have hi:i<ln:=by simp only[Qy]at i2;omega
  refine⟨ad,h1,by rw[LZ];exact pk _ (.inr (.inl ⟨b,h2⟩)),Jo ?_ (rF i hi)⟩;rw[<-h3];exact zs (by rw[CM];exact mZ _ (s0 b _ h2))
 have r1:Lj (snap aG w₂) A1 (C_ A5 fit (UD ln 1) (Qy ln 1)):=fun j u hu=>by
  obtain⟨ad,h1,⟨b,h2⟩,h3⟩:=C1 j u hu;obtain⟨i,i1,i2,rfl,_⟩:=Ov hu;have hi:i<ln:=by simp only[Qy]at i2;omega
  refine⟨ad,h1,by rw[LZ];exact pk _ (.inr (.inr (.inl ⟨b,h2⟩))),Jo ?_ (rF i hi)⟩;rw[<-h3];exact zs (by rw[CM];exact Mr _ (s1 b _ h2))
 have I8:C_ A5 fit (UD ln 0) (Qy ln 0)++C_ A5 fit (UD ln 1) (Qy ln 1)=C_ A5 fit 0 ln:=by
  have e1:UD ln 0=0:=by simp[UD]
  have e2:Qy ln 0=ln / 2:=by simp[Qy]
  have e3:UD ln 1=ln / 2:=by simp[UD]
  have e4:Qy ln 1=ln:=by simp only[Qy];omega
  rw[e1,e2,e3,e4];exact gd (Zn _) (by omega)
 have MH:=fun t=>anH (wl:=tp (snap aG w₂) t) (K:=K) q0 q1 r0 r1 (fun u hu=>by obtain⟨i,_,h,rfl⟩:=XF hu;exact aiu i (by simp only[Qy]at h;omega)) (fun u hu=>by obtain⟨i,_,h,rfl⟩:=XF hu;exact aiu i (by simp only[Qy]at h;omega)) (by
  have h1:=Ds (rows:=A5) (fit:=fit) (lo:=UD ln 0) (hi:=Qy ln 0);have h2:=Ds (rows:=A5) (fit:=fit) (lo:=UD ln 1) (hi:=Qy ln 1);simp only[UD,Qy]at h1 h2;show(C_ A5 fit (UD ln 0) (Qy ln 0)).length+(C_ A5 fit (UD ln 1) (Qy ln 1)).length<=1000000;simp only[UD,Qy];omega)
 rw[I8]at MH;refine⟨Tu ρ uF uG K,fun b c hb=>.inl ⟨b,hb⟩,?_,?_⟩
 .rintro c (h|⟨b,h⟩|⟨b,h⟩|h)
  .exact .inr (.inl h)
  .exact .inr (.inr (.inl (s0 b c h)))
  .exact .inr (.inr (.inr (s1 b c h)))
  .exact .inl h
 have hDD:(fun c=>∃b,aG b=some c)=Tu ρ uF uG K:=by
  funext c
  apply propext;constructor
  .rintro⟨b,hb⟩
   obtain⟨h,rfl⟩:=Gt.1 hb;exact h
  .exact fun h=>⟨c,Gt.2 ⟨h,rfl⟩⟩
 have hR:=qI AK.twins Oe (ρ:=aG) (AK.ahK rfl rfl rfl) rfl (f:=159) (show cy 159=true by decide) (a:= #[.slice (some ⟨K,0,none⟩) 2 2]) (a':= #[.slice (some ⟨K,0,none⟩) 2 2]) (BG.single (.slice _ _ ⟨Gt.2 ⟨.inr (.inr (.inr rfl)),rfl⟩,rfl,rfl⟩)) hWC (c':=c') (cs':=cs') (Post:=kz (snap aG w₂) (C_ A5 fit 0 ln)) kz.blind
  (fun t=>(MH t).mono fun e w' h=>by
   obtain⟨h1,h2,h3⟩:=h;rcases z7 (C_ A5 fit 0 ln).length with hz|hp
   .rw[h2 hz]
    exact⟨fun b hb=>h1.block b hb,fun _=>rfl,fun h=>absurd h (by omega)⟩
   .obtain⟨r,c,rfl,g1,g2,g3⟩:=h3 hp
    exact⟨fun b hb=>h1.block b hb,fun h=>absurd h (by omega),fun _=>⟨r,c,rfl,g1,g2,g3⟩⟩)
  (fun v w' h b o _ ho=>by rw[h.1 b (Za.1 ho).1];exact ho)
  (fun b c hb=>by
   obtain⟨h,rfl⟩:=Gt.1 hb;obtain⟨o,h1,h2⟩:=acY b h;exact VC h1 h2) (S:=Tu ρ uF uG K) (fun c=>by rw[<-hDD]) (m:=true)
 rw[hDD]at hR;refine hR.imp fun S g D9 h=>?_;obtain⟨σ,G8,v,v',rfl,⟨qf,WS,hp3⟩,hv,hle,uv,acZ,hS⟩:=h;refine⟨v',rfl,fun hz=>?_,fun hp=>?_⟩
 .rw[WS hz]at hv
  obtain⟨A,rfl,hA⟩:=VR.Gz hv;cases A with
  |none=>rfl
  |some A=>exact hA.elim
 .obtain⟨r0,k,rfl,g1,g2,g3⟩:=hp3 hp
  obtain⟨A,rfl,hA⟩:=VR.Gz hv;cases A with
  |none=>exact hA.elim
  |some A=>
  obtain⟨gw,U0,pf⟩:=hA;obtain⟨ab,ao,aq⟩:=A;dsimp only at gw U0 pf;subst U0 pf;rw[LZ]at g1;have EC:w₂.heap.size<=ab:=by
   rcases uv _ _ gw with h|⟨_,h⟩
   .obtain⟨hd,e⟩:=Gt.1 h
    have:=pk _ hd;omega
   .exact h
  obtain⟨o,o',p1,p2,p3⟩:=acZ.obj _ _ gw;rw[g3.2]at p1;cases p1;cases p3 with
  | @cells _ cs e f f' hc hf=>
  refine⟨ab,k,cs,f',rfl,g3.1,EC,g2,(hS ab).2 ⟨r0,gw⟩,p2,?_,?_⟩
  .rcases hf with rfl|hf|⟨h1,h2⟩
   .exact Zj _
   .exact hf
   .dsimp only at h2;omega
  .refine Array.ext hc.1.symm fun i h1 h2=>?_
   have hx:=hc.2 i _ _ (ZC h2) (ZC h1);have m_:i<k:=by
    have:=g3.1;simp at h2;omega
   rw[Array.getElem_append]at hx⊢;split at hx
   .next AA=>
    rw[dif_pos AA];have hm:(C_ A5 fit 0 ln).toArray[i] ∈C_ A5 fit 0 ln:=by simp
    obtain⟨j,_,hj,hr⟩:=XF hm;rw[hr]at hx⊢;have D5:=(rF j hj).mono hle;obtain⟨a,m,c,h⟩:=Cr j hj;have hRj:=hR;have hrj:= ‹∀i,i<ln->VR ρ (rows i) (A5 i)› j hj;rw[h]at hrj;obtain⟨A,hA,_⟩:=VR.Gz hrj;rw[hA]at hx D5⊢;exact VR.Pn hx D5
   .next AA=>
    rw[dif_neg AA];rw[Array.getElem_replicate]at hx⊢;exact VR.Pn hx (.slice _ _ trivial)
end
def CF.same (h:CF w b)(e:w₁.heap[b]?=w.heap[b]?):CF w₁ b:=by
 obtain⟨t,n,h1,h2⟩:=h;refine⟨t,n,?_,fun off ho=>?_⟩
 .unfold Yx at*;rw[e];exact h1
 .have:=h2 off ho
  unfold Yy at*;rw[e];exact this
def K8.same {J:Nat->Obj->Prop}(h:K8 J w b)(e:w₁.heap[b]?=w.heap[b]?):K8 J w₁ b:=
 h.imp (fun h=>CF.same h e) fun⟨o,h1,h2⟩=>⟨o,h1,e.trans h2⟩
def Tv (P' P:Zp)(B:Ik)(J:Nat->Obj->Prop)(ρ₀:Ren)(n₀ n₀':Nat)(Lk S:Nat->Prop)(g:Zi)(w:Zc)(w':Zc)(gs:Array Zi)(sl:Option (Nat×Nat))(t:Y8):Prop:=
  ∃(N:Nat) (C6:Array Zi) (C8:Option (Nat×Nat)) (El:Y8) (GY:Nat->Nat) (Shun₁:Loc->Prop) (F1:Nat->Prop) (σ:Ren) (AG:Zi) (w₁:Zc) (Dj:Zi) (w₁':Zc),
   ZaI P N (Ys gs w' sl) t=(.next (Ys C6 w₁' C8),El)/\CP P' B true g w AG w₁/\NY P' P B J ρ₀ n₀ n₀' Lk F1 σ AG w₁ Dj w₁'/\Ctx P F1 Dj w₁' C6 El GY Shun₁/\MZ S Lk w' w₁' F1
section
variable {B:Ik}{fn:Func}{Post:Ze->Zc->Prop}{J:Nat->Obj->Prop}{ρ₀ ρ:Ren}{n₀ n₀':Nat}{Lk S:Nat->Prop}{f f':ZT}{cs cs':List ZT}{a a':Array Ze}{w w':Zc}{gs:Array Zi}{sl:Option (Nat×Nat)}{t:Y8}{q:Nat->Nat}{Shun:Loc->Prop}
variable {g:Zi}
variable {σ:Ren}
def Ng {N:Nat}{C6:Array Zi}{C8:Option (Nat×Nat)}{El:Y8}{GY:Nat->Nat}{Shun₁:Loc->Prop}{g':Zi}{w₁':Zc}{v':Ze}(H:NY Lp Zd B J ρ₀ n₀ n₀' Lk S ρ g w g' w')(hS:Gr Lp Zd B ρ (f::cs) (f'::cs'))(Bn:f.todo≠ [])
 (hr:ZaI Zd N (Ys gs w' sl) t=(.next (Ys C6 w₁' C8),El)) (hp:CP Lp B true g w (AV (f.finish v) cs) w₁) (hb:∀b,b<w.heap.size->w₁.heap[b]?=w.heap[b]?) (UC:w₁.os=w.os) (Ek:w.heap.size<=w₁.heap.size)
 (X:Lone Zd Shun₁ w₁'.heap.size (AV (f'.finish v') cs') C6 El GY) (GZ:∀b,b<w'.heap.size->w₁'.heap[b]?=w'.heap[b]?) (Td:w'.heap.size<=w₁'.heap.size) (wR:w₁'.os=w'.os/\w₁'.tape=w'.tape/\w₁'.output=w'.output)
 (Jt:He Shun₁ w₁'.heap.size) (hle:ρ.le σ) (Bt:∀b c,σ b=some c->ρ b=some c\/(w.heap.size<=b/\w'.heap.size<=c/\c<w₁'.heap.size/\(∀p:Addr,p.block=c->¬Shun₁ (.cell p))/\∃o o',w₁.heap[b]?=some o/\w₁'.heap[c]?=some o'/\OR σ o o'))
 (kA:∀b,S b->∀p:Addr,p.block=b->¬Shun₁ (.cell p)) (hv:VR σ v v'):
  Tv Lp Zd B J ρ₀ n₀ n₀' Lk S g w w' gs sl t:=by
 have AA:∀b c,ρ b=some c->b<w.heap.size/\c<w'.heap.size:=fun b c h=>H.world.lt h;refine⟨N,C6,C8,El,GY,Shun₁,fun c=>∃b,σ b=some c,σ,AV (f.finish v) cs,w₁,AV (f'.finish v') cs',w₁',hr,hp,?_,?_,?_⟩
 .refine⟨H.env.mono hle,Ren.le_trans H.le hle,fun b c hb=>?_,⟨Zt H.size.1 Ek,Zt H.size.2 Td⟩,.inl ⟨_,_,_,_,rfl,rfl,(hS.mono hle).top fun K h=>h.finish hv Bn⟩,⟨fun b c KC=>?_,?_⟩,fun c hc=>?_,fun c=>Iff.rfl⟩
  .rcases Bt b c hb with h|h
   .exact H.fresh b c h
   .exact .inr ⟨Zt H.size.1 h.1,Zt H.size.2 h.2.1⟩
  .rcases Bt b c KC with h|h
   .obtain⟨o,o',h1,h2,h3⟩:=H.world.obj b c h
    exact⟨o,o',(hb b (AA b c h).1).trans h1,(GZ c (AA b c h).2).trans h2,h3.mono hle⟩
   .exact h.2.2.2.2
  .rw[wR.1,UC];exact H.world.os
  .obtain⟨b,h1,h2⟩:=H.lock c hc
   exact⟨b,hle.1 _ _ h1,K8.same h2 (hb b (AA b c h1).1)⟩
 .refine⟨X.main,X.old,X.past,fun c ⟨b,hb⟩=>?_,Jt⟩
  rcases Bt b c hb with h|h
  .exact⟨Zm (AA b c h).2 Td,kA c ((H.holds c).2 ⟨b,h⟩)⟩
  .exact⟨h.2.2.1,h.2.2.2.1⟩
 .refine⟨Td,fun b hb _=>GZ b hb,wR.1,wR.2.1,wR.2.2,fun c ⟨b,hb⟩=>?_⟩
  rcases Bt b c hb with h|h
  .exact .inl ((H.holds c).2 ⟨b,h⟩)
  .exact .inr h.2.1
def wS (hl:B.lcs=[De Lp])(KF:B.K.seg=false)(rG:Dk Post)(ha:a.size=3)(hva:B1 ρ a a')(JN:ρ.ok=Oh)(hS:Gr Lp Zd B ρ (f::cs) (f'::cs'))(Bn:f.todo≠ [])
 (hM:CE Lp B true (EN Lp B fn Post PX) (AV (Zq Lp 104 a .normal) (f::cs)) w)
 (H:NY Lp Zd B J ρ₀ n₀ n₀' Lk S ρ (AV (Zq Lp 104 a .normal) (f::cs)) w (AV (Zq Zd 104 a' .normal) (f'::cs')) w') (X:Ctx Zd S (AV (Zq Zd 104 a' .normal) (f'::cs')) w' gs t q Shun):
  Tv Lp Zd B J ρ₀ n₀ n₀' Lk S (AV (Zq Lp 104 a .normal) (f::cs)) w w' gs sl t:=by
 obtain⟨gc,la,ln,lc,sv,rows,fit,rfl,HP⟩:=acH hl KF rG H.env hS ⟨w',H.world⟩ ha hM;obtain⟨y0,y1,y2,rfl⟩:=ai2 a' (hva.1.symm.trans rfl);have v0:VR ρ (.agg gc) y0:=hva.2 0 _ _ rfl rfl;have v1:VR ρ (.slice la ln lc) y1:=hva.2 1 _ _ rfl rfl;have v2:VR ρ sv y2:=hva.2 2 _ _ rfl rfl;obtain⟨gc',rfl,Oq⟩:∃gc',y0=.agg gc'/\B1 ρ gc gc':=by
  cases v0 with
  |agg h1 h2=>exact⟨_,rfl,h1,h2⟩
 obtain⟨eZ,rfl,qu⟩:=VR.Gz v1;obtain⟨sa,sn,sc,hsv⟩:=HP.rh;have v2':=v2;rw[hsv]at v2';obtain⟨uE,rfl,_⟩:=VR.Gz v2';clear v2';have Tx:∀i,∃x,i<ln->VR ρ (rows i) x:=fun i=>by
  by_cases hi:i<ln
  .obtain⟨ad,rfl,h2,h3⟩:=HP.there i hi
   cases eZ with
   |none=>exact qu.elim
   |some ad'=>
    obtain⟨x,_,hx⟩:=WR.aaw H.world (AR.add qu i) h3;exact⟨x,fun _=>hx⟩
  .exact⟨Zf,fun h=>absurd h hi⟩
 obtain⟨A5,hR⟩:=Classical.axiomOfChoice Tx;clear Tx;obtain⟨ao4,C6,W,w₁,C8,El,ku,hL,hJ⟩:=mY (sl:=sl) X H.holds JN H.world Oq v1 v2 HP hR;obtain⟨b,S',h0,⟨pb,rfl⟩,wa⟩:=hJ.main;obtain⟨GY,hold⟩:=hJ.old;obtain⟨vals,ord,tm,mE,qN,mr⟩:=hJ.chan;have Ek:=hL.size;have ayl:=hJ.size;generalize hn:w'.heap.size=n at*;have EP:∀b,S b->b<n:=fun b hb=>by rw[<-hn];exact(X.held b hb).1
 have Tt:∀p:Addr,n<=p.block->¬Shun (.cell p):=fun p hp hs=>by
  obtain⟨a,e,h⟩:=X.bE _ hs;cases e;omega
 have ad0:∀b,b<n->w₁.heap[b]?=w'.heap[b]? :=fun b hb=>by
  rw[hJ.still b (by omega) (by omega) (by omega) ?_,hL.old b hb];by_cases h:S b
  .exact .inr (.inl h)
  .refine .inl fun h'=>?_
   rcases h' with h'|h'|h'|h'|h'
   .exact h h'
   all_goals omega
 obtain⟨T0,p0,mZ⟩:=mr 0 (by omega);obtain⟨T1,p1,Mr⟩:=mr 1 (by omega);have aD:∃A0 m0 c0,vals 0=.agg #[.int .i64 0,.slice A0 m0 c0]:=by
  obtain⟨_,_,_,A,c,e,_⟩:=p0;exact⟨_,_,_,e⟩
 have XE:∃A1 m1 c1,vals 1=.agg #[.int .i64 1,.slice A1 m1 c1]:=by
  obtain⟨_,_,_,A,c,e,_⟩:=p1;exact⟨_,_,_,e⟩
 obtain⟨A0,m0,c0,aD⟩:=aD;obtain⟨A1,m1,c1,XE⟩:=XE;rw[aD]at p0;rw[XE]at p1;obtain⟨M0,Jn,w₂,DU,Iq,UO,T,FR,Lq,hT,hD⟩:=drain (sl:=C8) (B:=w₁.heap.size+3) ⟨h0,hold,hJ.past.mono (by omega)⟩ mE aD XE qN (by
   unfold zG;rw[hJ.still (n+4) (by omega) (by omega) (by omega) (.inr (.inr (.inr (.inr (.inr rfl))))),hL.chb];rfl)
  (fun p hp hs=>by
   rcases hs with hs|⟨a,e,h⟩
   .exact Tt p (by omega) hs
   .cases e;omega) (Zj _)
 have bZ:∀b,b<n->w₂.heap[b]?=w'.heap[b]? :=fun b hb=>(hD.old b (by omega) (by omega)).trans (ad0 b hb);obtain⟨D,uH,pk,ao5⟩:=gy (w₂:=w₂) (K:=w₁.heap.size) (c':=cJ T [1,2]) (cs':=f'::cs') JN H.world HP.small HP.row hR (fun b c hb=>bZ c (by rw[<-hn];exact(H.world.lt hb).2)) hD.kept
  p0 (fun b hb=>hD.old b (mZ b hb).2.1 (mZ b hb).2.2.2) p1 (fun b hb=>hD.old b (Mr b hb).2.1 (Mr b hb).2.2.2)
 have Jt:He (fun l=>Shun l\/M3 (n+5) l) w₂.heap.size:=by
  rintro l (h|⟨a,rfl,h⟩)
  .obtain⟨a,e,h⟩:=X.bE l h
   exact⟨a,e,by have:=hD.size;omega⟩
  .exact⟨a,rfl,by have:=hD.size;omega⟩
 have hDs:∀c,D c->c<w₁.heap.size+1/\c≠n+5/\(∀p:Addr,p.block=c->¬Shun (.cell p)):=fun c hc=>by
  have hT:∀T:Nat->Prop,(∀b,T b->(Sx S n b\/W.heap.size<=b)/\b<w₁.heap.size/\b≠n+5/\b≠n+3)->T c->c<w₁.heap.size+1/\c≠n+5/\(∀p:Addr,p.block=c->¬Shun (.cell p)):=fun T hT h=>by
   obtain⟨k1,k2,k3,_⟩:=hT c h;refine⟨by omega,k3,fun p hp=>?_⟩;rcases k1 with(k1|k1)|k1
   .exact(X.held c k1).2 p hp
   .exact Tt p (by omega)
   .exact Tt p (by omega)
  rcases pk c hc with rfl|⟨b,hb⟩|h|h
  .exact⟨by omega,by omega,fun p hp=>Tt p (by omega)⟩
  .have:=(H.holds c).2 ⟨b,hb⟩
   exact⟨by have:=EP c this;omega,by have:=EP c this;omega,(X.held c this).2⟩
  .exact hT T0 mZ h
  .exact hT T1 Mr h
 have G9:=hD.size;obtain⟨lY,rD,aym,D9,cO,qB,acW,ayn,Jg,_,aiv,⟨v',rfl,j_,SB⟩,aiw,ad1,auA,aaF,Ty⟩:=S2 ao5 _ w₂ Jn DU Iq UO (Zj _) (D_.refl _ _) Lq.main Lq.old (by rw[G9.1];exact Lq.past) (fun b hb=>⟨by have:=(hDs b hb).1;omega,fun p hp hs=>by
   rcases hs with hs|⟨a,e,h⟩
   .exact(hDs b hb).2.2 p hp hs
   .cases e;exact(hDs b hb).2.1 (by omega)⟩) Jt
 have auB:=Ty.size;have b_:∀b,b<n->D9.heap[b]?=w'.heap[b]? :=fun b hb=>by
  rw[Ty.still b (by omega) ?_,bZ b hb];by_cases h:D b
  .exact .inr h
  .exact .inl h
 obtain⟨y9,y10,y11,y13,y14,y15,y16,y17,y18,y19,y20,y21,y22,y23,y24,y25,y26,y27,y28,y29,y30,y31,rfl⟩:=hT;obtain⟨air,bG,ao2,Lh,bH,qD,vR,S3,⟨rfl,ais,rfl⟩,cP⟩:=Cl (sl:=cO) (fun _ _ _ h=>h) (a:=G ((cJ (TK n (.agg gc') (.slice eZ ln lc) (.slice uE sn sc) y9 y13 y14 y15 y16 y17 y18 y19 y10 y11 y20 y21 y22 y23 y24 y25 y26 y27 y28 y29 y30 y31) [1,2]).finish v') (f'::cs')) ⟨aiv,aiw,ad1⟩ (rB (Shun:=fun l=>Shun l\/M3 (n+5) l) (B:=D9.heap.size) (W:=D9));have BD:ZaI Zd (ao4+(M0+(lY+air))) (Ys gs w' sl) t=(.next (Ys bG (D9.at ais) bH),qD):=by
  rw[Go.FO.runNT_add _ _ _ _ _ _ ku,Go.FO.runNT_add _ _ _ _ _ _ FR,Go.FO.runNT_add _ _ _ _ _ _ Jg];exact S3
 have UC:D9.os=w'.os/\D9.tape=w'.tape/\D9.output=w'.output:=by
  refine⟨?_,?_,?_⟩
  .rw[Ty.os,hD.os,hJ.os,hL.os]
  .rw[Ty.tape,hD.tape,hJ.tape,hL.tape]
  .rw[Ty.output,hD.output,hJ.output,hL.output]
 have kA:∀b,S b->∀p:Addr,p.block=b->¬(Shun (.cell p)\/M3 (n+5) (.cell p)):=fun b hb p hp hs=>by
  rcases hs with hs|⟨a,e,h⟩
  .exact(X.held b hb).2 p hp hs
  .cases e
   have:=EP b hb;omega
 have hlen:=R_ rows A5 fit 0 ln;have Kv:B.lcs.length<(f::cs).length:=hS.deep;rcases z7 (C_ A5 fit 0 ln).length with hz|E7
 .obtain⟨v,wL,hB,aD,_,hP⟩:=ko hl rG Kv HP hM (k:=(C_ rows fit 0 ln).length) (Zj _) (by
   have h1:=Ds (rows:=rows) (fit:=fit) (lo:=0) (hi:=ln);have h2:=HP.small;have:maxLen=9223372036854775807:=rfl;omega)
  rw[aD (by omega)]at hP;rw[j_ hz]at cP;exact Ng (Shun₁:=fun l=>Shun l\/M3 (n+5) l) H hS Bn BD hP hB.block hB.os hB.size cP (fun b hb=>b_ b (by omega)) (by show w'.heap.size<=D9.heap.size;omega) UC aaF (Ren.le_refl ρ) (fun b c h=>.inl h) kA (.slice 0 0 trivial)
 .obtain⟨r',k,cs',fz,rfl,hk1,hk2,Ow,hSr,hcr,hfz,hcs⟩:=SB E7
  obtain⟨v,wL,hB,_,XE,hP⟩:=ko hl rG Kv HP hM (k:=k) (by omega) Ow;obtain⟨r,rfl,aE,QX⟩:=XE (by omega);have aaG:ρ.QV r r':=⟨fun b hb=>by have:=(H.world.lt hb).2;omega,by have:=(H.world.lt ρ.base).1;omega,by have:=(H.world.lt ρ.base).2;omega⟩;have hle:ρ.le (ρ.ext r r' aaG):=⟨fun b c h=>by
   have:=(H.world.lt h).1;show(if b=r then some r' else ρ b)=some c;rw[if_neg (by omega)];exact h,rfl,rfl,rfl⟩
  have Fq:r'<D9.heap.size:=(Za.1 hcr).1;refine Ng (Shun₁:=fun l=>Shun l\/M3 (n+5) l) H hS Bn BD hP hB.block hB.os hB.size cP (fun b hb=>b_ b (by omega)) (by show w'.heap.size<=D9.heap.size;omega) UC aaF hle (fun b c h=>?_) kA ?_
  .rcases Xz aaG h with h|⟨rfl,rfl⟩
   .exact .inl h
   .refine .inr ⟨aE,by omega,Fq,fun p hp hs=>?_,_,_,QX.2,hcr,.cells 22 ?_ (.inr (.inl hfz))⟩
    .rcases hs with hs|⟨a,e,h⟩
     .exact Tt p (by omega) hs
     .cases e;omega
    .rw[hcs, <-hlen]
     refine⟨by simp[hlen],fun i v x h1 h2=>?_⟩;rw[Array.getElem?_append]at h1 h2;have Td:(C_ rows fit 0 ln).toArray.size=(C_ A5 fit 0 ln).toArray.size:=by simp[hlen]
     rw[Td]at h1;split at h1
     .next AA=>
      rw[if_pos AA]at h2;rw[Z1]at h1 h2;obtain⟨j,_,hj,rfl,hj4⟩:=Ov h1;rw[hj4 A5]at h2;cases h2;exact(hR j hj).mono hle
     .next AA=>
      rw[if_neg AA]at h2;have e1:=(zC h1);have e2:=(zC h2);rw[Array.mem_replicate]at e1 e2;rw[e1.2,e2.2];exact .slice _ _ trivial
  .rw[hlen]
   exact .slice _ _ ⟨if_pos rfl,rfl,rfl⟩
end
end Go.Proofs.Fit
