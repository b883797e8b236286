/- Part of a proof. -/
import Derived.Test.YtkkjobdfheidkaaGreatDoorQ04
import Derived.Conc.BesideWords
import Derived.Conc.CrowdComm
set_option maxRecDepth 100000
set_option maxHeartbeats 6400000
noncomputable section
set_option linter.all false
open Array renaming getElem?_push_size->Zav,getElem?_modify->Y7,getElem?_setIfInBounds_ne->Zk,mem_iff_getElem->ZbL,getElem?_eq_getElem->Zx,getElem?_eq_some_iff->Za,getElem?_map->zF,getElem?_setIfInBounds_self_of_lt->ZV,toList->ZbD,getD_eq_getD_getElem?->Yp,replicate->Yu,mem_of_getElem?->zY
open Go renaming World->Zb,Value->Zf,undef->Ze,Frame->ZM,Goroutine->Zi,storedEv->Yv,Program->Zo,TypeId->Zs,stepG->za,Event->Z9,Trace->YZ,runNT->ZaE,PanicEntry->zk,FuncId->ZaQ
open Go.Act renaming put->Zck
open Go.Addr renaming add->Zcu
open Go.Builtin renaming zeroCells->Zt
open Go.Conc renaming AtRel->Zct,stepG_seq->Zn,stepG_region_end->Zg,stepG_block->Zbq,stepG_skip->ZU,goes_oper_k->zx,mem_listed->zO,evL_cell->YJ,stepG_ret'->z8,events_results_tmp->ZdW,crowd->Yj,runT_crowd_go->Zb1,Deaf_other->Y0,mem_ofEvents->ZQ,served->YU
open Go.Conc.Goes renaming stop->ZT
open Go.Deferred renaming ofValue->Yd
open Go.Frame renaming enter->Zq,raise->ZaV
open Go.Instr renaming indexAt->Zb9,sliceAt->ZaI,sliceBounds->Zbf
open Go.IntWalk renaming i64_in->ZcD
open Go.MemAct renaming ofEvent->ZR,touch?->Yg,low->Zce
open Go.MemOp renaming ofEvents->ZK
open Go.Proofs.Tryz renaming prog->Zc,f104->zK,runUnderlying210->Zbz,runUnderlying197->ZdI,zeroValue209->Zcy
open Go.Question renaming appendCap->zJ
open Go.RowKit renaming Below->YH
open Go.RowKit.Below renaming heap_setCell->Y4,heap_alloc->zD
open Go.Value.tuple renaming inj->Zdt
open Go.World renaming size_alloc->ZB,setCell->Z8,alloc->Zaz,cell?->zy,frozen?_of_block->ZdX,cell?_of_block->zn,shape?->Yn,frozen?->Yo,block_lt_of_cell?->ZH
open List renaming getElem?_map->YL,mem_of_getElem?->Z3,getElem?_eq_some_iff->Zm,length_take->ZcV,getElem?_take_of_lt->Z2,getElem?_toArray->ZG
open List.cons renaming inj->zL
open Nat renaming lt_of_lt_of_le->Zl,le_trans->Zr,le_refl->Zj,eq_zero_or_pos->zQ,zero_le->Zp
open Ne renaming symm->Za0
open Option renaming map_eq_some_iff->zc,getD_some->Zw,map_some->Zdh
open Option.some renaming injEq->ZJ,inj->ZW
namespace Go.Proofs.Fit
open Go Go.Conc
def BC:Code:=Tryz.f104.body.getD .skip
def GQ:Code->Code
 | .seq a _=>a
 |c=>c
def DI:Code->Code
 | .seq _ b=>b
 |c=>c
def Kk:Code->Code
 | .block _ (.loop c)=>c
 |c=>c
def Dt:Code:=DI (DI (DI BC))
def Jg:Code:=Kk (DI (GQ Dt))
def Eb:Code:=DI Dt
def FU:Code:=DI Eb
def tF:Array Oper:=match GQ Eb with| .region _ a _=>a|_=> #[]
def W1 (W:Zb)(a:Array Zf)(lv sv:Zf):Zb:=
 (((((W.alloc (.cells a 112)).alloc (.cells #[lv] 27)).alloc (.cells #[sv] 23)).alloc (.chan 2 #[] false 0 0 false)).alloc (.cells #[.chan (some (W.heap.size+3))] 197)).alloc (.cells #[.int .u64 0,.int .u32 0] 206)
def Du (b:Nat):Zf:=.pointer b
def TM (n:Nat)(gv lv sv a b d c h g e f:Zf):Array Zf:=
 #[gv,lv,sv,Du n,Du (n+1),Du (n+2),.slice none 0 0,Du (n+4),Du (n+5),a,Ze,Ze,.chan (some (n+3)),b,d,c,h,g,e,f,Ze,Ze,Ze,Ze,Ze,Ze,Ze,Ze,Ze,Ze,Ze,Ze]
def T1 (n:Nat)(gv lv sv:Zf):Array Zf:=TM n gv lv sv Ze Ze Ze Ze Ze Ze Ze Ze
end Go.Proofs.Fit
set_option linter.unusedSimpArgs false
namespace Go.Proofs.Fit
open Go Go.Conc Go.ConcX Go.RowKit Go.Conc.Lib Go.ConcX.Gen
def tG:∃i,Tryz.prog.info? 209=some i/\i.bytes=32:=by
 have h:(Tryz.prog.info? 209).map (·.bytes)=some 32:=k!
 obtain⟨i,b,a⟩:=zc.1 h;exact⟨i,b,a⟩
variable {Shun:Loc->Prop}
variable {W w₀ w w' wl w₁:Zb}
variable {gc a gc':Array Zf}
variable {c1 pb k Wg B n r K c b ln lc lo hi:Nat}
variable {cs:List ZM}
def oG {l k:Option Addr}{f e j:Nat}(b:∀a:Addr,W.heap.size<=a.block->¬Shun (.cell a)):
  Goes Zc true Zct (DE (EvL Shun (W+6))) (λg w=>g=G ((base 104).at ⟨T1 W (.agg gc) (.slice l f c1) (.slice k e j),[]⟩ [.code Dt]) cs/\∃d,w=(W1 W gc (.slice l f c1) (.slice k e j)).at d) 20
   (G ((base 104).at ⟨#[.agg gc,.slice l f c1,.slice k e j,Ze,Ze,Ze,Ze,Ze,Ze,Ze,Ze,Ze,Ze,Ze,Ze,Ze,Ze,Ze,Ze,Ze,Ze,Ze,Ze,Ze,Ze,Ze,Ze,Ze,Ze,Ze,Ze,Ze],[]⟩ [.code BC]) cs) W:=by
 obtain⟨i,hi,h⟩:=tG;have p:∀w,(Instr.makeChan 197 (.int .i64 2)).run Zc w=.ok (.chan (some w.heap.size)) (w.alloc (.chan 2 #[] false 0 0 false)):=λw=>run_makeChan (P:=Zc) (w:=w) (t:=197) Tryz.underlying197 hi .i64 2 o! (by rw[h];omega);have m:∀w c,(Instr.makeChan 197 (.int .i64 2)).events Zc w c=c:=λw c=>events_makeChan (P:=Zc) (w:=w) (t:=197) Tryz.underlying197 hi .i64 2 o! (by rw[h];omega) c;clear hi h;simp only[BC,zK,Zw]
 l_c Zn
 l_reg
 i_opw (b _ q!)
 i_opw (b _ q!)
 i_opw (b _ q!)
 l_op
 l_c Zg
 l_c Zn
 l_reg
 i_opw (b _ q!)
 i_opw (b _ q!)
 i_opw (b _ q!)
 l_c Zg
 l_c Zn
 l_reg
 i_opw (b _ q!)
 l_c Zg
 refine ZT (λw₁ o=>?_);obtain⟨d,n⟩:=o;subst n;simp only[alloc_at,setCell_at,at_at];refine⟨?_,_,rfl⟩;simp[T1,TM,Dt,DI,BC,zK,Du]
end Go.Proofs.Fit
set_option linter.unusedSimpArgs false
namespace Go.Proofs.Fit
open Go Go.Conc Go.FA Go.Pair Go.RowKit Go.Conc.Lib Go.ConcR.Gen Go.ConcN.Gen
open Go.ConcN (WgLive)
open Go.ConcR (DC0)
def jQ (S:Nat->Prop)(w:Zb)(o:Obj):Ib S w (w.alloc o)=λb=>S b\/b=w:=by
 funext b
 apply propext;unfold Ib;rw[ZB];constructor
 .rintro(h|h)
  .exact .inl h
  exact .inr o!
 rintro(h|h)
 .exact .inl h
 exact .inr o!
def aK (S:Nat->Prop)(w:Zb)(a:Addr)(v:Zf):Ib S w (w.setCell a v)=S:=by
 funext b
 apply propext;unfold Ib;have:(w.setCell a v).heap.size=w.heap.size:=by simp[Z8]
 rw[this];constructor
 .rintro(h|h)
  .exact h
  omega
 exact .inl
def FV (T:Array Zf)(cs:List ZM):Zi:=G ((base 104).at ⟨T,[]⟩ [.code Jg,.inLoop Jg,.inBlock 0,.code Eb]) cs
section
variable {Lk S:Nat->Prop}{Wg n:Nat}{gv lv sv:Zf}{cs:List ZM}
def jR (w:Zb):Goes Zc true (Ah 206 Wg S) DC0 (λg _=>g=FV (TM n gv lv sv Ze (.int .i64 0) Ze Ze Ze Ze Ze Ze) cs) 8 (G ((base 104).at ⟨T1 n gv lv sv,[]⟩ [.code Dt]) cs) w:=by
 have a:True:=trivial;simp only[T1,TM,Dt,DI,BC,zK,Zw]
 u_c Zn Dp a
 u_c Zn Dp a
 u_reg Dp a
 u_op Dp a
 u_c Zg Dp a
 u_c Zbq Dp a
 u_c stepG_loop Dp a
 refine ZT λ_ _=>?_;simp[FV,Jg,Kk,GQ,TM,Eb,Dt,DI,BC,zK]
end
structure AF (S:Nat->Prop)(pb:Nat)(k:Nat)(w₀ w:Zb):Prop where
 base:D1 S w₀ w
 cell:w.heap[pb]?=some (.cells #[.int .i64 k] 3 (0,0))
 lt:pb<w
variable {S:Nat->Prop}
variable {c1 pb k Wg B n r K c b ln lc lo hi:Nat}
variable {W w₀ w w' wl w₁:Zb}
def oH (hS:¬S Wg)(hp:pb≠Wg):Gm 206 Wg (λb=>S b\/b=pb) (AF S pb k w₀) where
 rely w w' r h:=⟨h.base.trans ⟨λb hb=>r.base.same b (.inl hb),r.base.size,r.base.os⟩,(r.base.same pb (.inr rfl)).trans h.cell,Zl h.lt r.base.size⟩
 set w a v ha h:=by
  have hh:∀b,b≠Wg->(w.setCell a v).heap[b]?=w.heap[b]? :=λb hb=>Y4 w a v b (by rw[ha];exact hb);refine⟨h.base.trans ⟨λb hb=>hh b (λe=>hS (e▸hb)),by simp[Z8],rfl⟩,?_,by simpa[Z8]using h.lt⟩;exact(hh pb hp).trans h.cell
def MI (n pb:Nat):Zf:=.func (.func 156) #[] (IL (n+5) (n+1) pb n (n+2) (n+4))
def oI:Code->Code
 | .block _ c=>c
 |c=>c
def jS:Code->Array Oper
 | .region _ a _=>a
 |_=> #[]
def O0:Code:=oI (GQ (DI (DI Jg)))
def aaq:Array Oper:=jS (GQ O0)
def r67:Code:=DI O0
def r7:Code:=DI r67
def aar:Array Oper:=jS r7
def r8:Code:=DI (DI (DI Jg))
def k5:List Item:=[.inBlock 1,.code r8,.inLoop Jg,.inBlock 0,.code Eb]
def UR (n pb k:Nat)(gv lv sv a b:Zf)(cs:List ZM):Zi:=
 G ((base 104).at ⟨TM n gv lv sv (Du pb) (.int .i64 k) (.bool true) (.int .i64 k) (.tuple #[]) (MI n pb) a b,[]⟩ (.inRegion aar []::k5)) cs
section
variable {Lk S:Nat->Prop}{n k:Nat}{gv lv sv x9 Lx Ly K0 K1 Kr Kl:Zf}{cs:List ZM}{Pay:Gk}{Next:Cd}
abbrev Ql6 (S:Nat->Prop)(w:Zb):Prop:=∀b,S b->b<w.heap.size
def US (hk:k<2)(w:Zb)(KW:WgLive 206 (n+5) w)(hW:n+5<w.heap.size)(gD:¬S (n+5))(u:Ql6 S w)(U:∀b,Lk b->b<w.heap.size)
 (I:∀(pb:Nat) (w':Zb),w.heap.size<=pb->pb<w'.heap.size->D1 S w w'->WgLive 206 (n+5) w'->w'.heap[pb]?=some (.cells #[.int .i64 k] 3 (0,0))->
 Be Zc false 206 (n+5) (λb=>S b\/b=pb) (Pair.AtSend Zc 206 (n+5) (n+3) Pay) (λb=>S b\/b=pb) (born Zc (call156 (n+5) (n+1) pb n (n+2) (n+4))) w'/\
 Next (λb=>S b\/b=pb) (UR n pb k gv lv sv Kr Kl cs) w'):
  Be Zc true 206 (n+5) Lk (AtKdS Zc 206 (n+5) (n+3) Pay Next) S (FV (TM n gv lv sv x9 (.int .i64 k) Lx Ly K0 K1 Kr Kl) cs) w:=by
 have s:True:=trivial;have Az:((k:Int)<2):=o!
 have W:Be Zc true 206 (n+5) Lk (λo g w'=>o=S/\D1 S w w'/\WgLive 206 (n+5) w'/\g=G ((base 104).at ⟨TM n gv lv sv x9 (.int .i64 k) (.bool true) (.int .i64 k) K0 K1 Kr Kl,[]⟩ (.inRegion aaq [1,2]:: .code r67::k5)) cs) S (FV (TM n gv lv sv x9 (.int .i64 k) Lx Ly K0 K1 Kr Kl) cs) w:=by
  refine Be.G2 (n:=20) ?_;have hF:D1 S w w/\WgLive 206 (n+5) w:=⟨D1.refl _ _,KW⟩;have j:∀ {a b:Zb},D1 S w a/\WgLive 206 (n+5) a->Ah 206 (n+5) S a b->D1 S w b/\WgLive 206 (n+5) b:=λh r=>⟨h.1.trans r.base,r.live h.2⟩;simp only[FV,Jg,Kk,GQ,TM,Eb,Dt,DI,BC,zK,Zw]
  u_c Zn j hF
  u_reg j hF
  u_op j hF
  u_c Zg j hF
  u_c Zn j hF
  u_cond true j hF
  u_c ZU j hF
  u_c Zn j hF
  u_c Zbq j hF
  u_c Zn j hF
  u_reg j hF
  u_op j hF
  refine ZT λ_ r=>⟨trivial,(j hF r).1,(j hF r).2,?_⟩;simp[FV,k5,r67,r8,aaq,O0,oI,jS,Jg,Kk,GQ,TM,Eb,Dt,DI,BC,zK]
 refine W.bind λo g w₁ B_=>?_;obtain⟨rfl,NC,aL,rfl⟩:=B_ w₁ (Ah.refl w₁);clear W B_;refine Be.Q9 rfl λi l=>?_;have B:=NC.trans l.base;have R:=l.live aL;have GU:w<=i.heap.size:=B.size;clear l NC aL;simp only[aaq,k5,r67,r8,O0,oI,jS,Jg,Kk,GQ,TM,Eb,Dt,DI,BC,zK,Zw];refine zx rfl rfl d! (λK s=>?_)
 go_simp
 refine s _ _ ⟨⟨i!,λb m _=>zD _ _ _ m,rfl,rfl,rfl,λe D=>?_⟩,?_⟩
 .have y:=zO D
  simp[go_sem, *]at y
 clear s K;rw[jQ];have Y:(i.alloc (.cells #[.int .i64 0] 3)).heap[i.heap.size]?=some (.cells #[.int .i64 0] 3 (0,0)):=by
  unfold Zaz;exact Zav
 have X:(i.alloc (.cells #[.int .i64 0] 3)).frozen? i=false:=by simp[go_sem]
 have UT:D1 o w (i.alloc (.cells #[.int .i64 0] 3)):=B.trans ⟨λb m=>zD _ _ _ (Zl (u b m) GU),i!,rfl⟩;have Z:WgLive 206 (n+5) (i.alloc (.cells #[.int .i64 0] 3)):=WgLive.of_heap R (zD _ _ _ o!);have V:i.heap.size<(i.alloc (.cells #[.int .i64 0] 3)).heap.size:=i!
 generalize C:i.heap.size=pb at*;generalize i.alloc (.cells #[.int .i64 0] 3)=DZ at*;clear B R C;refine Be.Q9 rfl λp l=>?_;have Q:=UT.trans (⟨λb m=>l.base.same b (.inl m),l.base.size,l.base.os⟩:D1 o DZ p);have P:=l.live Z;have A:=(l.base.same pb (.inr rfl)).trans Y;have H:p.cell? ⟨pb,0,none⟩=some (.int .i64 0):=by unfold zy;rw[A];rfl
 have F:=(ZdX (a:=pb) (l.base.same pb (.inr rfl))).trans X;have O:pb<p:=Zl V l.base.size;clear l UT Z Y X V;refine zx rfl rfl d! (λK s=>?_)
 go_simp
 have t:pb≠n+5:=o!
 have z:∀b,b≠pb->(p.setCell pb (.int .i64 k)).heap[b]?=p.heap[b]? :=λb m=>Y4 p _ _ b m;refine s _ _ ⟨⟨by simp[Z8],λb m q=>z b λe=>?_,rfl,rfl,rfl,λe D=>?_⟩,?_⟩
 .subst e
  rcases q with q|q
  .exact q (.inr rfl)
  have:=U b q;omega
 .have y:=zO D
  simp[go_sem,Yv, *]at y;subst y;exact⟨.inl (.inr rfl),λ_ q=>by have:=U pb q;omega⟩
 clear s K;rw[aK];have N:AF o pb k w (p.setCell pb (.int .i64 k)):=
  ⟨Q.trans ⟨λb m=>z b λe=>by have:=u b m;omega,by simp[Z8],rfl⟩,by unfold Z8;simp only[Y7,if_pos,A,Zdh];rfl,by simpa[Z8]using O⟩
 have M:WgLive 206 (n+5) (p.setCell pb (.int .i64 k)):=WgLive.of_heap P (z _ (Za0 t));generalize p.setCell pb (.int .i64 k)=tg at*;clear Q P H A F O z;have v:Gm 206 (n+5) (λb=>o b\/b=pb) (AF o pb k w):=oH gD t;have hF:AF o pb k w tg/\WgLive 206 (n+5) tg:=⟨N,M⟩;clear N M;refine Be.G2 (n:=50) ?_;have j:= @Ab 206 (n+5) _ _ v
 u_c Zg j hF
 u_c Zn j hF
 u_reg j hF
 u_in j hF
 refine goes_call rfl rfl n! rfl Tryz.UI.f_add (nm_add Tryz.link) rfl ⟨by u_nil,?_⟩
 walk_nrmf addFn
 have E:= @tf Tryz.link Zc Tryz.UI (n+5) (n+3) _ _ v Pay Next;simp only[body_add,addFn,Zw]at E;refine QB (E (mT:=12) (λT L J=>?_) _ hF) o!;clear E hF;have hF:AF o pb k w T/\WgLive 206 (n+5) T:=⟨L,J⟩;clear L J
 walk_nrm
 u_c Zg j hF
 u_reg j hF
 u_op j hF
 refine ZT λx r=>?_;replace hF:=j hF r;clear r;obtain⟨h1,h2⟩:=I pb x GU hF.1.lt hF.1.base hF.2 hF.1.cell;refine⟨rfl,_,_,?_,h1,h2⟩;rw[stepG_spawn (d:=call156 (n+5) (n+1) pb n (n+2) (n+4)) (w':=x) (f:=.func 156) (c:=IL (n+5) (n+1) pb n (n+2) (n+4)) rfl rfl d! (by simp[go_sem,call156,Yd,IL,ptr,Du]) rfl];simp[listed,go_sem,seen,Yd];simp[UR,MI,IL,ptr,Du,TM,k5,aar,r7,r67,r8,O0,oI,jS,Jg,Kk,GQ,Eb,Dt,DI,BC,zK,Zck]
 rfl
end
end Go.Proofs.Fit
set_option linter.unusedSimpArgs false
namespace Go.Proofs.Fit
open Go Go.Conc Go.FA Go.Pair Go.RowKit Go.Conc.Lib Go.ConcR.Gen Go.ConcN.Gen
open Go.ConcN (WgLive)
open Go.ConcR (DC0)
section
variable {P:Zo}{ty:Zs}{Wg:Nat}{Anch A A':Cd}{S:Nat->Prop}
variable {g:Zi}
variable {W w₀ w w' wl w₁:Zb}
def jT (h:∀S g w,A S g w->A' S g w){a:Nat}(x:AtW2 P ty Wg Anch A S a g w):AtW2 P ty Wg Anch A' S a g w:=by
 obtain⟨i,b⟩:=x;refine⟨i,λv d c=>⟨(b v d c).1,λk=>?_⟩⟩;obtain⟨j,f,m,e⟩:=(b v d c).2 k;exact⟨j,f,m,EA (λg w=>h S g w) e⟩
def jU (h:∀S g w,A S g w->A' S g w)(x:AtW1 P ty Wg Anch A S g w):AtW1 P ty Wg Anch A' S g w:=by
 obtain⟨j,a⟩:=x;refine⟨j,λv c b=>?_⟩;obtain⟨k,i,f,e⟩:=a v c b;refine⟨k,i,f,λl=>?_⟩;obtain⟨m,d⟩:=e l;exact⟨m,EA (λg w=>jT h) d⟩
def jV (h:∀S g w,A S g w->A' S g w)(x:AtKd P ty Wg A S g w):AtKd P ty Wg A' S g w:=by
 obtain⟨c,d,b,m,a⟩:=x;exact⟨c,d,b,m,EA (λg w=>h S g w) a⟩
end
variable {P:Zo}
variable {c1 pb k Wg B n r K c b ln lc lo hi:Nat}
variable {S:Nat->Prop}
variable {W w₀ w w' wl w₁:Zb}
def O1 {m:Bool}{ty:Zs}{St:Zi->Zb->Prop}:∀ {n:Nat} {g:Zi} {w:Zb},Ah ty Wg S w₀ w->Goes P m (Ah ty Wg S) DC0 St n g w->Goes P m (Ah ty Wg S) DC0 (λg w'=>Ah ty Wg S w₀ w'/\St g w') n g w:=by
 intro n
 induction n with
 |zero=>intro g w a h w₁ r;exact⟨a.trans r,h w₁ r⟩
 |succ n c=>
  intro g w a h;rcases h with h|⟨d,h⟩
  .exact .inl λw₁ r=>⟨a.trans r,h w₁ r⟩
  refine .inr ⟨d,λw₁ r=>?_⟩;have:=h w₁ r;cases b:za P m g w₁ with
  |go f w' i=>
   rw[b,goes_go]at this;rw[goes_go];obtain⟨⟨rfl,rfl⟩,e⟩:=this;exact⟨⟨rfl,rfl⟩,c (a.trans r) e⟩
  |_=>rw[b]at this;exact this.elim
def oM (Wg:Nat)(S:Nat->Prop):Gm 206 Wg S (λ_=>True):=⟨λ_ _ _ h=>h,λ_ _ _ _ h=>h⟩
def gS (n pb:Nat)(gv lv sv a:Zf)(rest:List Nat):ZM:=
 (base 104).at ⟨TM n gv lv sv (Du pb) (.int .i64 2) (.bool false) (.int .i64 1) (.tuple #[]) (MI n pb) (.int .i64 2) a,[]⟩ (.inRegion tF rest:: [.code FU])
def We (n pb:Nat)(gv lv sv:Zf)(cs:List ZM):Zi:=G (gS n pb gv lv sv (.tuple #[]) []) cs
def gT (n:Nat)(gv lv sv:Zf)(cs:List ZM):Cd:=λ_ g _=>∃pb,g=We n pb gv lv sv cs
def Sj (n:Nat)(gv lv sv:Zf)(cs:List ZM):Cd:=λS g w=>∃pb,VW Tryz.link (λ_ _=>True) (n+5) (gS n pb gv lv sv Ze [0]) cs S g w
section
variable {S:Nat->Prop}{n k:Nat}{gv lv sv:Zf}{cs:List ZM}
def TX:∀S g w,gT n gv lv sv cs S g w->g.status=.running:=by
 rintro S g w ⟨pb,rfl⟩
 rfl
def Sk:∀S g w,Sj n gv lv sv cs S g w->g.status=.running:=by
 rintro S g w ⟨pb,_,T,rfl,_⟩
 rfl
def aN:∀S g w,Sj n gv lv sv cs S g w->∃m,Goes Zc true (Ah 206 (n+5) S) DC0 (AtW1 Zc 206 (n+5) (gT n gv lv sv cs) (Sj n gv lv sv cs) S) m g w:=by
 rintro S g w ⟨pb,h⟩;obtain⟨m,a⟩:=dC (L:=Tryz.link) (P:=Zc) Tryz.UI (Wg:=n+5) (F:=λ_ _=>True) (Anch:=gT n gv lv sv cs) (b₀:=base 104) (mT:=0) (λS _ w _ _=>by
  intro w₁ _;refine⟨pb,?_⟩;simp[We,gS,tF,Eb,GQ,Dt,DI,BC,zK,Zck,TM]) S g w h
 exact⟨m,EA (λg w=>jU λS g w h=>⟨pb,h⟩) a⟩
variable {Kr Kl x9 MH Lx Ly K0 K1 Qj Q_ cJ TY Tt Tu Tv Tx Ty Tz v u x:Zf}
def Sm (e:k<2)(w:Zb):Goes Zc true (Ah 206 (n+5) S) DC0 (λg w'=>D1 S w w'/\(WgLive 206 (n+5) w->WgLive 206 (n+5) w')/\g=FV (TM n gv lv sv (Du pb) (.int .i64 ((k:Int)+1)) (.bool true) (.int .i64 k) (.tuple #[]) (MI n pb) (.int .i64 ((k:Int)+1)) Kl) cs) 12 (UR n pb k gv lv sv Kr Kl cs) w:=by
 have hF:Ah 206 (n+5) S w w:=Ah.refl w;have i:(0:Int)<=k:=o!
 have f:(k:Int)<2:=o!
 have c:∀ {a b:Zb},Ah 206 (n+5) S w a->Ah 206 (n+5) S a b->Ah 206 (n+5) S w b:=λh r=>h.trans r;simp only[UR,k5,aar,r7,r67,r8,O0,oI,jS,Jg,Kk,GQ,TM,Eb,Dt,DI,BC,zK,Zw]
 u_c Zg c hF
 u_c stepG_inBlock c hF
 u_reg c hF
 u_op c hF
 u_op c hF
 u_c Zg c hF
 u_c stepG_inLoop c hF
 refine ZT λ_ r=>⟨(c hF r).base,(c hF r).live,?_⟩;have d:IntKind.i64.wrap ((k:Int)+1)=k+1:=ZcD _ o!;rw[d];simp[FV,Jg,Kk,GQ,TM,Eb,Dt,DI,BC,zK]
def jW (w:Zb)(b:WgLive 206 (n+5) w):
  Goes Zc true (Ah 206 (n+5) S) DC0 (AtKd Zc 206 (n+5) (Sj n gv lv sv cs) S) 30 (FV (TM n gv lv sv (Du pb) (.int .i64 2) (.bool true) (.int .i64 1) (.tuple #[]) (MI n pb) (.int .i64 2) Ze) cs) w:=by
 have hF:=b;simp only[FV,Jg,Kk,GQ,TM,Eb,Dt,DI,BC,zK,Zw]
 u_c Zn Ag hF
 u_reg Ag hF
 u_op Ag hF
 u_c Zg Ag hF
 u_c Zn Ag hF
 u_cond false Ag hF
 u_exit Ag hF
 u_c Zn Ag hF
 u_reg Ag hF
 u_in Ag hF
 refine goes_call rfl rfl n! rfl Tryz.UI.f_wait (nm_wait Tryz.link) rfl ⟨by u_nil,?_⟩
 walk_nrmf waitFn
 have a:= @dD Tryz.link Zc Tryz.UI (n+5) (λ_ _=>True) S (oM _ _);simp only[body_wait,waitFn,Zw]at a;refine QB (EA (λg w h=>jV (λS g w h=>⟨pb,?_⟩) h) (a _ ⟨trivial,hF⟩)) o!;simpa[gS,tF,FU,Eb,GQ,Dt,DI,BC,zK,TM]using h
def aO {L:Nat->Prop}{Pay:Nat->Gk}(w:Zb)(Q:WgLive 206 (n+5) w)(T:n+5<w)(B:¬S (n+5))(m:Ql6 S w)(I:∀b,L b->b<w.heap.size)
 (l:∀(k pb:Nat) (d:Nat->Prop) (w':Zb),k<2->(∀b,S b->d b)->d pb->(∀b,d b->S b\/w<=b)->(∀b,d b->b<w'.heap.size)->D1 S w w'->WgLive 206 (n+5) w'->w'.heap[pb]?=some (.cells #[.int .i64 k] 3 (0,0))->w.heap.size<=pb->
 Be Zc false 206 (n+5) d (Pair.AtSend Zc 206 (n+5) (n+3) (Pay k)) d (born Zc (call156 (n+5) (n+1) pb n (n+2) (n+4))) w'):
  Be Zc true 206 (n+5) L (AtKdS Zc 206 (n+5) (n+3) (Pay 0) (wj Zc 206 (n+5) (n+3) Pay 2 (Sj n gv lv sv cs) 1)) S (G ((base 104).at ⟨T1 n gv lv sv,[]⟩ [.code Dt]) cs) w:=by
 have A:Be Zc true 206 (n+5) L (λd g w'=>d=S/\Ah 206 (n+5) S w w'/\g=FV (TM n gv lv sv Ze (.int .i64 0) Ze Ze Ze Ze Ze Ze) cs) S (G ((base 104).at ⟨T1 n gv lv sv,[]⟩ [.code Dt]) cs) w:=
  Be.G2 (n:=8) (EA (λg w' h=>⟨rfl,h⟩) (O1 (Ah.refl w) (jR (S:=S) (n:=n) (gv:=gv) (lv:=lv) (sv:=sv) (cs:=cs) (Wg:=n+5) w)))
 refine A.bind λS₀ N w₀ j=>?_;obtain⟨rfl,o,rfl⟩:=j w₀ (Ah.refl w₀);clear A j;have y:=o.base.size;refine US (k:=0) o! w₀ (o.live Q) o! B (λb a=>Zl (m b a) y) (λb a=>Zl (I b a) y) λc w₁ R O u D s=>?_;have M:=u.size;have q:∀b,S₀ b\/b=c->b<w₁.heap.size:=by
  rintro b (a|rfl)
  .have:=m b a;omega
  exact O
 refine⟨l 0 c _ w₁ o! (λb a=>.inl a) (.inr rfl) (λb a=>a.imp id λe=>o!) q (o.base.trans u) D s o!,?_⟩;show Be _ _ _ _ _ _ _ _ _;have z:Be Zc true 206 (n+5) (λb=>S₀ b\/b=c) (λd g w'=>d=(λb=>S₀ b\/b=c)/\Ah 206 (n+5) (λb=>S₀ b\/b=c) w₁ w'/\g=FV (TM n gv lv sv (Du c) (.int .i64 1) (.bool true) (.int .i64 0) (.tuple #[]) (MI n c) (.int .i64 1) Ze) cs) (λb=>S₀ b\/b=c) (UR n c 0 gv lv sv Ze Ze cs) w₁:=
  Be.G2 (n:=12) (EA (λg w' h=>⟨rfl,h.1,h.2.2.2⟩) (O1 (Ah.refl w₁) (Sm (S:=λb=>S₀ b\/b=c) (n:=n) (k:=0) o! w₁)))
 refine z.bind λd g f j=>?_;obtain⟨rfl,r,rfl⟩:=j f (Ah.refl f);clear z j;have p:=r.base.size;refine US (k:=1) o! f (r.live D) o! (λh=>h.elim B λe=>o!) (λb a=>Zl (q b a) p) (λb a=>Zl (q b a) p) λi DZ F E t C K=>?_;have x:=t.size;have H:D1 S₀ w DZ:=(o.base.trans u).trans (⟨λb a=>(t.same b (.inl a)).trans (r.base.same b (.inl a)),Zr p x,t.os.trans r.base.os⟩);refine⟨l 1 i _ DZ o! (λb a=>.inl (.inl a)) (.inr rfl) (λb a=>?_) (λb a=>?_) H C K o!,?_⟩
 .rcases a with(a|a)|a
  .exact .inl a
  .exact .inr o!
  exact .inr o!
 .rcases a with a|a
  .exact Zl (q b a) (Zr p x)
  omega
 show Be _ _ _ _ _ _ _ _ _;have J:Be Zc true 206 (n+5) (λb=>(S₀ b\/b=c)\/b=i) (λd g w'=>d=(λb=>(S₀ b\/b=c)\/b=i)/\Ah 206 (n+5) (λb=>(S₀ b\/b=c)\/b=i) DZ w'/\g=FV (TM n gv lv sv (Du i) (.int .i64 2) (.bool true) (.int .i64 1) (.tuple #[]) (MI n i) (.int .i64 2) Ze) cs) (λb=>(S₀ b\/b=c)\/b=i) (UR n i 1 gv lv sv (.int .i64 1) Ze cs) DZ:=
  Be.G2 (n:=12) (EA (λg w' h=>⟨rfl,h.1,h.2.2.2⟩) (O1 (Ah.refl DZ) (Sm (S:=λb=>(S₀ b\/b=c)\/b=i) (n:=n) (k:=1) o! DZ)))
 refine J.bind λd g v j=>?_;obtain⟨rfl,P,rfl⟩:=j v (Ah.refl v);exact Be.G2 (jW v (P.live C))
end
end Go.Proofs.Fit
set_option linter.unusedSimpArgs false
namespace Go.Proofs.Fit
open Go Go.Conc Go.ConcX Go.RowKit Go.Conc.Lib Go.ConcX.Gen
def Ma:Code:=DI (DI FU)
def JK:Code:=Kk (DI (GQ Ma))
def JL:Code:=DI Ma
def PE:Array Oper:=match GQ JK with| .region _ a _=>a|_=> #[]
def Lz:Code:=DI JK
def k13:List Item:=[.code Lz,.inLoop JK,.inBlock 2,.code JL]
def TJ (n:Nat)(gv lv sv a o q p u t r s c l m d b k j i h g f e:Zf):Array Zf:=
 #[gv,lv,sv,Du n,Du (n+1),Du (n+2),.slice none 0 0,Du (n+4),Du (n+5),a,c,l,.chan (some (n+3)),o,q,p,u,t,r,s,m,d,b,k,j,i,h,g,f,e,Ze,Ze]
def Kc (T:Array Zf)(cs:List ZM):Zi:=G ((base 104).at ⟨T,[]⟩ (.inRegion PE [0,1]::k13)) cs
variable {Shun:Loc->Prop}
variable {c1 pb k Wg B n r K c b ln lc lo hi:Nat}
def gV (r:Nat)(wr:Bool)(b:r<B):EvL Shun B ⟨.obj r,wr,true⟩:=by
 cases wr
 .refine⟨λx a _=>?_,i!,i!,?_⟩
  .simp only[ZR,Yg,ZJ]at a
   subst a;simp
  simp only[ZR,Zce,Loc.low];exact b
 refine⟨λx a _=>?_,i!,i!,?_⟩
 .simp only[ZR,Yg]at a
  cases a
 simp only[ZR,Zce];exact b
variable {W w₀ w w' wl w₁:Zb}
variable {Kr Kl gv lv sv x9 MH Lx Ly K0 K1 Qj Q_ cJ TY Tt Tu Tv Tx Ty Tz v u x:Zf}
variable {tm:Bool}
variable {cs:List ZM}
def dK {pb s:Nat}{b:Array Zf}(m:∀a:Addr,a.block=n+4->¬Shun (.cell a))(x:n+4<B)(c:n+3<B)(l:W.cell? ⟨n+4,0,none⟩=some (.chan (some (n+3))))(i:W.heap[n+3]?=some (.chan 2 b false s r tm))(v:n+4<W):
  Goes Zc true Zct (DE (EvL Shun B)) (λg w=>g=Kc (TJ n gv lv sv x9 MH Lx Ly K0 K1 Kr (.tuple #[]) (Du W) Ze (.chan (some (n+3))) (.chan (some (n+3))) Ze Ze Ze Ze Ze Ze Ze Ze) cs/\∃d,w=((W.setChan (n+3) 2 b true s r tm).alloc (.cells #[(),()] 210)).at d) 20
   (G ((base 104).at ⟨TM n gv lv sv x9 MH Lx Ly K0 K1 Kr (.tuple #[]),[]⟩ (.inRegion tF []:: [.code FU])) cs) W:=by
 simp only[TM,Du,FU,Eb,Dt,DI,BC,zK,Zw]
 l_c Zg
 l_c Zn
 l_reg
 i_opw (m _ rfl)
 l_in
 rename_i dd;refine zx rfl rfl d! (λK o=>?_);have t:=fun(d:Nat) (es:Array Z9)=>events_close_open (P:=Zc) (w:=W.at d) (es:=es) #[197] 0 (r:=n+3) i;have f:=fun(d:Nat)=>run_close_open (P:=Zc) (w:=W.at d) #[197] 0 (r:=n+3) i
 go_simp
 refine o _ ((W.setChan (n+3) 2 b true s r tm).at dd) ⟨λe p=>?_,?_⟩
 .have k:=zO p
  simp[go_sem, *]at k;rcases k with rfl|rfl
  .exact gV _ _ c
  exact gV _ _ c
 clear o K t f
 l_c Zg
 l_c Zn
 l_reg
 i_opw (λh=>h)
 l_c Zg
 have j:(W.setChan (n+3) 2 b true s r tm).heap.size=W.heap.size:=size_setChan _ _ _ _ _ _ _ _;have y:((W.setChan (n+3) 2 b true s r tm).alloc (.cells #[(),()] 210)).cell? ⟨n+4,0,none⟩=some (.chan (some (n+3))):=by
  refine(zn (w:=W) (a:=⟨n+4,0,none⟩) ?_).trans l;rw[zD _ _ _ (by rw[j];exact v)];exact Zk (by show n+3≠n+4;omega)
 rw[j];clear l i
 l_c Zn
 l_c Zn
 l_reg
 i_opw (m _ rfl)
 l_c Zg
 l_c Zbq
 l_c stepG_loop
 l_c Zn
 l_reg
 refine ZT (λw₁ u=>?_);obtain⟨d,q⟩:=u;subst q;simp only[alloc_at,setCell_at,at_at];refine⟨?_,_,rfl⟩;simp[Kc,TJ,Du,PE,k13,Lz,JK,JL,Ma,Kk,GQ,FU,Eb,Dt,DI,BC,zK]
end Go.Proofs.Fit
set_option linter.unusedSimpArgs false
namespace Go.Proofs.Fit
open Go Go.Conc Go.ConcX Go.RowKit Go.Conc.Lib Go.ConcX.Gen
def jY (P:Zo)(w:Zb)(es:Array Z9)(a:Addr)(m:Mode)(b:Option Addr)(l c:Nat):(store a (.slice b l c) m).events P w es=Yv P w es a (.slice b l c) m:=events_store P w es a _ m rfl
def UU (a:Addr)(w:Zb)(es:Array Z9)(k:Int)(b:k=0\/k=1):(Zb9 210 (.pointer (some a)) (.int .i64 k)).events Zc w es=es:=by
 unfold Zb9;rcases b with rfl|rfl<;>simp[go_sem,Zbz]
def LA (T:Array Zf)(cs:List ZM):Zi:=G ((base 104).at ⟨T,[]⟩ (.inRegion PE [1]::k13)) cs
variable {Shun:Loc->Prop}
variable {c1 pb k Wg B n r K c b ln lc lo hi:Nat}
variable {W w₀ w w' wl w₁:Zb}
variable {Kr Kl gv lv sv x9 MH Lx Ly K0 K1 Qj Q_ cJ TY Tt Tu Tv Tx Ty Tz v u x:Zf}
variable {cs:List ZM}
def dM {va:Option Addr}{vn vc:Nat}{old:Zf}(p:k=0\/k=1)(b:∀a:Addr,a.block=K\/W.heap.size<=a.block->¬Shun (.cell a))(y:W<B)(m:K<W)(l:W.cell? ⟨K,k,none⟩=some old)(j:W.frozen? ⟨K,k,none⟩=false):
  Goes Zc true Zct (DE (EvL Shun B)) (λg w=>g=Kc (TJ n gv lv sv x9 MH Lx Ly K0 K1 Kr Kl (Du K) (Du W) Q_ cJ (.tuple #[.agg #[.int .i64 k,.slice va vn vc],.bool true]) (.bool true) (.agg #[.int .i64 k,.slice va vn vc]) (Du W) (.int .i64 k) (.pointer (some ⟨W,1,none⟩)) (.slice va vn vc) (.pointer (some ⟨K,k,none⟩))) cs/\∃d,w=((W.alloc (.cells #[.int .i64 k,.slice va vn vc] 209)).setCell ⟨K,k,none⟩ (.slice va vn vc)).at d) 30
   (LA (TJ n gv lv sv x9 MH Lx Ly K0 K1 Kr Kl (Du K) Qj Q_ cJ (.tuple #[.agg #[.int .i64 k,.slice va vn vc],.bool true]) TY Tt Tu Tv Tx Ty Tz) cs) W:=by
 have z:∀o,(W.alloc o).cell? ⟨K,k,none⟩=some old:=λo=>(zn (w:=W) (a:=⟨K,k,none⟩) (zD _ _ _ m)).trans l;have A:∀o,(W.alloc o).frozen? ⟨K,k,none⟩=false:=λo=>(ZdX (w:=W) (a:=⟨K,k,none⟩) (zD _ _ _ m)).trans j;clear l j;simp only[LA,TJ,Du,PE,k13,Lz,JK,JL,Ma,Kk,GQ,FU,Eb,Dt,DI,BC,zK,Zw];rcases p with rfl|rfl
 all_goals
  have v:=jY Zc;have x:=λa w f=>UU a w f 0 (.inl rfl);have q:=λa w f=>UU a w f 1 (.inr rfl)
  l_op
  l_c Zg
  l_c Zn
  l_cond true
  l_c ZU
  l_c Zbq
  l_c Zn
  l_reg
  l_op
  i_opw (λh=>h)
  l_in
  refine zx rfl rfl d! (λt c=>?_)
  go_simp
  refine c _ _ ⟨λe r=>?_,?_⟩
  .have i:=zO r
   simp[go_sem,Yv, *]at i;rcases i with rfl|rfl
   .exact YJ _ _ (b _ (.inr (Zj _))) (by show W<B;omega)
   exact YJ _ _ (b _ (.inr (Zj _))) (by show W<B;omega)
  clear c t
  l_c Zg
  l_reg
  l_op
  i_opw (b _ i!)
  l_op
  i_opw (b _ i!)
  l_op
  i_opw (b _ (.inl rfl))
  l_c Zg
  l_c stepG_inBlock
  l_c stepG_inLoop
  l_c Zn
  l_reg
  refine ZT (λw₁ u=>?_);obtain⟨d,s⟩:=u;subst s;simp only[alloc_at,setCell_at,at_at];refine⟨?_,_,rfl⟩;simp[Kc,Du,PE,k13,Lz,JK,JL,Ma,Kk,GQ,FU,Eb,Dt,DI,BC,zK]
end Go.Proofs.Fit
set_option linter.unusedSimpArgs false
namespace Go.Proofs.Fit
open Go Go.Conc Go.ConcX Go.RowKit Go.Conc.Lib Go.ConcX.Gen
def afU:(Tryz.f159.name== "runtime.NumGoroutine")=false:=k!
def oQ:Array Oper:=match GQ JL with| .region _ a _=>a|_=> #[]
def aP (T:Array Zf)(rest:List Nat):ZM:=(base 104).at ⟨T,[]⟩ (.inRegion oQ rest:: [.code .ret])
def TK (n:Nat)(gv lv sv c q s r w v t u e o p f d m l k j i h g b a:Zf):Array Zf:=
 #[gv,lv,sv,Du n,Du (n+1),Du (n+2),.slice none 0 0,Du (n+4),Du (n+5),c,e,o,.chan (some (n+3)),q,s,r,w,v,t,u,p,f,d,m,l,k,j,i,h,g,b,a]
def Wi (K:Nat)(w:Zb):(ZaI 210 (.pointer K) none none none).run Zc w=.ok (.slice K 2 2) w:=by
 unfold ZaI Zbf;simp[go_sem,Zbz,Zcu]
def Wj (K:Nat)(w:Zb)(es:Array Z9):(ZaI 210 (.pointer K) none none none).events Zc w es=es:=by
 unfold ZaI Zbf;simp[go_sem,Zbz]
variable {Shun:Loc->Prop}
variable {c1 pb k Wg B n r K c b ln lc lo hi:Nat}
variable {W w₀ w w' wl w₁:Zb}
variable {Kr Kl gv lv sv x9 MH Lx Ly K0 K1 Qj Q_ cJ TY Tt Tu Tv Tx Ty Tz v u x:Zf}
variable {cs:List ZM}
def j0 {z:Zf}:
  Goes Zc true Zct (DE (EvL Shun B)) (λg w=>g=G (Zq Zc 159 #[.slice K 2 2] .normal) (aP (TK n gv lv sv x9 MH Lx Ly K0 K1 Kr Kl (Du K) Qj Q_ cJ (.tuple #[z,.bool false]) (.bool false) Tt Tu Tv Tx Ty Tz (.slice K 2 2) Ze) [1,2]::cs)/\∃d,w=W.at d) 20
   (LA (TJ n gv lv sv x9 MH Lx Ly K0 K1 Kr Kl (Du K) Qj Q_ cJ (.tuple #[z,.bool false]) TY Tt Tu Tv Tx Ty Tz) cs) W:=by
 have f:=Wi K;have e:=Wj K;simp only[LA,TJ,Du,PE,k13,Lz,JK,JL,Ma,Kk,GQ,FU,Eb,Dt,DI,BC,zK,Zw]
 l_op
 l_c Zg
 l_c Zn
 l_cond false
 l_in
 refine goes_exit rfl ?_;refine⟨by u_nil,?_⟩
 l_c Zn
 l_reg
 l_op
 l_call Tryz.func159 afU Tryz.f159
 refine ZT (λw₁ c=>?_);obtain⟨d,b⟩:=c;subst b;simp only[alloc_at,setCell_at,at_at];refine⟨?_,_,rfl⟩;have a:Zq Zc 159 #[.slice K 2 2] .normal=(base 159).at ⟨#[.slice K 2 2,Ze,Ze,Ze,Ze,Ze,Ze,Ze,Ze,Ze,Ze,Ze,Ze,Ze,Ze,Ze,Ze,Ze,Ze,Ze,Ze,Ze,Ze,Ze,Ze,Ze,Ze,Ze,Ze,Ze,Ze,Ze,Ze,Ze,Ze,Ze],[]⟩ [.code (Tryz.f159.body.getD .skip)]:=by
  simp[Zq,Frame.at,base,Tryz.func159,Tryz.f159]
 rw[a];simp[Tryz.f159,aP,TK,Du,oQ,JL,Ma,Kk,GQ,FU,Eb,Dt,DI,BC,zK]
def oR {h f b a:Zf}{e:ZM}:
  Goes Zc true Zct (DE (EvL Shun B)) (λg w=>g=G (e.finish v) cs/\∃d,w=W.at d) 10
   (G ((aP (TK n gv lv sv x9 MH Lx Ly K0 K1 Kr Kl h Qj Q_ cJ f TY Tt Tu Tv Tx Ty Tz b a) [1,2]).finish v) (e::cs)) W:=by
 simp only[aP,TK,Du,oQ,JL,Ma,Kk,GQ,FU,Eb,Dt,DI,BC,zK,Zw];rw[Frame.finish_at]
 walk_nrm
 l_op
 l_c Zg
 l_c z8
 refine Goes.step rfl (λw₁ c=>?_);obtain⟨dd,j⟩:=c;subst j;rw[stepG_leave (v:=v) (fn:=zK) rfl rfl Tryz.func104 (results_tmp Tryz.results104 _ _ _) (ZdW Tryz.results104 _ _)];simp only[goes_go];refine⟨by u_nil,?_⟩;refine ZT (λw₁ c=>?_);obtain⟨d,i⟩:=c;subst i;exact⟨rfl,d,rfl⟩
end Go.Proofs.Fit
namespace Go.FA
open Go Go.Conc
open Go.ConcN (sumTo upd sumTo_upd upd_ne upd_same Deaf_still)
section
variable {P:Zo}{Shun:Loc->Prop}{B:Nat}{a:Zi}
structure Lone (P:Zo)(Shun:Loc->Prop)(B:Nat)(a:Zi)(gs:Array Zi)(t:YZ)(q:Nat->Nat):Prop where
 main:gs[0]?=some a
 old:Leavers P t gs q
 past:Past Shun B t
def PF (H:a.status=.running):∀(M:Nat) (gs:Array Zi) (w:Zb) (sl:Option (Nat×Nat)) (t:YZ) (q:Nat->Nat),sumTo gs.size q<=M->Lone P Shun B a gs t q->
  ∃(N:Nat) (gs':Array Zi) (d:Nat) (m:Option (Nat×Nat)) (o:YZ) (A:Nat->Nat) (F:Nat) (G:Option (Nat×Nat)),
   ZaE P N (Yj gs w sl) t=(.next (Yj gs' (w.at d) m),o)/\Lone P Shun B a gs' o A/\stepT P (Yj gs' (w.at d) m)=runT P (Yj gs' (w.at F) G) 0:=by
 intro M
 induction M with
 |zero=>?_
 |succ M R=>?_
 all_goals
  intro gs w sl t q hM X;obtain⟨s,l,I⟩:=X;have K:∀g∈gs,awake g:=by
   intro g c;obtain⟨i,b,rfl⟩:=ZbL.1 c;rcases zQ i with rfl|v
   .have:gs[0]=a:=by simpa[Zx b]using s
    rw[this];exact awake_of (.inl H)
   exact awake_of ((l.old i _ v (Zx b)).status.elim .inl λx=>.inr (.inr x))
  obtain⟨i,g,d,m,b,c,J⟩:=crowd_pick (P:=P) (w:=w) (sl:=sl) K ⟨0,a,s,H⟩;rcases zQ i with rfl|v;exact⟨0,gs,w.drawn,sl,t,q,d,m,rfl,⟨s,l,I⟩,J⟩
 .exfalso
  have z:i<gs.size:=(Za.1 b).1;have f:=l.old i g v b;have:=sumTo_upd q 0 id z;simp only[id]at this;have Y:(sumTo gs.size λx=>q x)=sumTo gs.size q:=rfl;rw[Y]at this;have:q i=0:=o!
  rw[this]at f;rw[f.1]at c;cases c
 have f:=l.old i g v b;have D:(i==0)=false:=j!
 have z:i<gs.size:=(Za.1 b).1;cases C:q i with
 |zero=>rw[C]at f;rw[f.1]at c;cases c
 |succ k=>
  rw[C]at f;rcases f with⟨W,_⟩|⟨_,g',Z,V,O,P_⟩
  .rw[W]at c;cases c
  have FB:=Zb1 (P:=P) (sl:=m) (i:=i) b (by rw[D];exact O (w.at d));have D':((gs.map (woken P g g' (w.at d))).setIfInBounds i g').size=gs.size:=i!
  have ai:sumTo gs.size (upd q i k)+(k+1)=sumTo gs.size q+k:=by
   have:=sumTo_upd q k id z;simpa[C]using this
  obtain⟨N,gs',d',Q,o,A,F,G,U,E,T⟩:=R ((gs.map (woken P g g' (w.at d))).setIfInBounds i g') (w.at d) m (t++ZK i g.frame.fn g.frame.place Z) (upd q i k) (by rw[D'];omega)
   ⟨by
    have BL:i≠0:=o!
    rw[Zk BL,zF,s];simp[woken_run H],
   ⟨λj x r p=>by
    by_cases u:i=j
    .subst u
     rw[ZV (by simpa using z)]at p;obtain rfl:=ZW p;rw[upd_same,Deaf_own];exact P_
    .rw[Zk u,zF]at p
     obtain⟨y,S,rfl⟩:=zc.1 p;have n:=l.old j y r S;rw[woken_quitsD n,upd_ne q k (Za0 u),Y0 t u _ (λL h=>by obtain⟨e,_,rfl⟩:=ZQ h;rfl)];exact n,λj r=>by
    rw[Y0 t (g':=i) (by simp at r;omega) _ (λL h=>by obtain⟨e,_,rfl⟩:=ZQ h;rfl)];exact l.above j (by simpa using r)⟩,I.mute o! V⟩
  exact⟨N+1,gs',d',Q,o,A,F,G,by simp only[ZaE,J,FB];exact U,E,T⟩
variable {gs:Array Zi}
variable {t:YZ}
variable {q:Nat->Nat}
def Lone.app {u:YZ}{a':Zi}(h:Lone P Shun B a gs t q)(k:∀op∈u,op.g=0)(i:∀op∈u,op.act.touch?=none)(hl:∀op∈u,op.act.low B)(e:∀op∈u,op.act≠ .mark .disable/\op.act≠ .mark .enable):
  Lone P Shun B a' (gs.setIfInBounds 0 a') (t++u) q:=by
 have l:0<gs.size:=(Za.1 h.main).1;refine⟨by simp[l],⟨λj x d f=>?_,λj d=>?_⟩,h.past.app0 k (λop c b g=>by rw[i op c]at g;cases g) (Deaf_still t 0 u e) hl⟩
 .rw[Zk o!]at f
  rw[Deaf_still t j u e];exact h.old.old j x d f
 rw[Deaf_still t j u e];exact h.old.above j (by simpa using d)
def Lone.oS (h:Lone P Shun B a gs t q)(c:Nat)(b:Bool):partners (gs.setIfInBounds 0 ph) c b=[]:=by
 refine Go.Conc.partners_nil λj g e=>?_;rcases getElem?_stand gs 0 j g e with⟨_,rfl⟩|⟨i,f⟩
 .exact offersAt_ph _ _
 refine offersAt_of_not_blocked ?_ _ _;rcases(h.old.old j g o! f).status with d|d<;>rw[d]<;>simp
section
variable {gs:Array Zi}{w:Zb}{sl:Option (Nat×Nat)}{t:YZ}{q:Nat->Nat}{O2:Zi}{c cap s r:Nat}{buf:Array Zf}{closed tm:Bool}{z:Zf}
def aQ (D:a.status=.running)(v:Lone P Shun B a gs t q)(m:∀d,za P true a (w.at d)=.comm O2 #[rcase c z] true (.recv true) (w.at d) #[])(o:w.heap[c]?=some (.chan cap buf closed s r tm))(p:0<buf.size)(x:c<B):
  ∃N gs' d A h l,ZaE P N (Yj gs w sl) t=(.next (Yj gs' ((w.setChan c cap (buf.extract 1 buf.size) closed s (r+1) tm).at d) A),h)/\Lone P Shun B (YU O2 (.tuple #[buf.getD 0 Ze,.bool true])) gs' h l:=by
 obtain⟨N,I,y,H,G,C,e,k,n,f,E⟩:=PF D _ gs w sl t q (Zj _) v;have j:=crowd_recv_buf (P:=P) (w:=w.at e) (w₁:=w.at e) (sl:=k) (i:=0) f.main (m e) (show(w.at e).heap[c]?=_ from o) p (f.oS c true);rw[finishComm_recv]at j;refine⟨N+1,_,e,k,_,C,?_,f.app (a':=YU O2 (recvd true (buf.getD 0 Ze) true)) (u:=ZK 0 a.frame.fn a.frame.place #[]++ #[{g:=0,fn:=O2.frame.fn,pos:=O2.frame.place,act:=.recv c r cap}, {g:=0,fn:=O2.frame.fn,pos:=O2.frame.place,act:=.recvDone c r}]) ?_ ?_ ?_ ?_⟩
 .rw[runNT_add _ _ _ _ _ _ n]
  simp only[ZaE,E,j]
  rfl
 all_goals
  intro F b;simp[ZK]at b;rcases b with rfl|rfl
 all_goals first
  |rfl
  |exact x
  |simp
def O3 (C:a.status=.running)(p:Lone P Shun B a gs t q)(m:∀d,za P true a (w.at d)=.comm O2 #[rcase c z] true (.recv true) (w.at d) #[])(o:w.heap[c]?=some (.chan cap #[] true s r tm))(v:c<B):
  ∃N gs' d y h l,ZaE P N (Yj gs w sl) t=(.next (Yj gs' (w.at d) y),h)/\Lone P Shun B (YU O2 (.tuple #[z,.bool false])) gs' h l:=by
 obtain⟨N,H,x,G,F,A,e,k,n,f,D⟩:=PF C _ gs w sl t q (Zj _) p;have j:=crowd_recv_closed (P:=P) (w:=w.at e) (w₁:=w.at e) (sl:=k) (i:=0) f.main (m e) (show(w.at e).heap[c]?=_ from o) (f.oS c true);rw[finishComm_recv]at j;refine⟨N+1,_,e,k,_,A,?_,f.app (a':=YU O2 (recvd true z false)) (u:=ZK 0 a.frame.fn a.frame.place #[]++ #[{g:=0,fn:=O2.frame.fn,pos:=O2.frame.place,act:=.recvClosed c}]) ?_ ?_ ?_ ?_⟩
 .rw[runNT_add _ _ _ _ _ _ n]
  simp only[ZaE,D,j]
 all_goals
  intro E b;simp[ZK]at b;subst b
 all_goals first
  |rfl
  |exact v
  |simp
variable {c1 pb k Wg n K b ln lc lo hi:Nat}
def Cf {D:Zb->Zb->Array Z9->Prop}{St:Zi->Zb->Prop}(h:∀w w' es,D w w' es->∀e∈es,EvL Shun B e)(d:Lone P Shun B a gs t q)(g:Goes P true Zct D St n a w):
  ∃N gs' a' w' f b c,ZaE P N (Yj gs w sl) t=(.next (Yj gs' w' f),b)/\St a' w'/\Lone P Shun B a' gs' b c:=by
 obtain⟨N,gs',a',w',f,b,c,m,o,l,k,j,i⟩:=walk_beside (P:=P) h _ n gs a w sl t q (Zj _) d.main d.old d.past g;exact⟨N,gs',a',w',f,b,c,m,k,l,j,i⟩
end
end
end Go.FA
namespace Go.Proofs.Fit
open Go Go.Conc Go.FA Go.RowKit
variable {W w₀ w w' wl w₁:Zb}
variable {p:Addr}
variable {Kr Kl gv lv sv x9 MH Lx Ly K0 K1 Qj Q_ cJ TY Tt Tu Tv Tx Ty Tz v u x:Zf}
def Sp (h:w.cell? p=some v):∃c e f,w.heap[p.block]?=some (.cells c e f):=by
 unfold zy at h;cases a:w.heap[p.block]? with
 |none=>rw[a]at h;cases h
 |some o=>
  rw[a]at h;cases o with
  |cells c e f=>exact⟨c,e,f,rfl⟩
  |_=>cases h
def Cr.back (h:Cr w w')(a:w'.cell? p=some v):w.cell? p=some v:=by
 obtain⟨c,e,f,b⟩:=Sp a;have d:=(h.same _ _ _ _).1 b;rw[<-a];unfold zy;rw[b,d]
def wW (b:Nat)(w:Zb)(a c:Zf):Prop:=
 (a=.nilIface\/∃n:Int,a=.iface 121 (.agg #[.int .i64 n]))/\∃t n,c=.iface 123 (.pointer (some ⟨t,0,none⟩))/\t<b/\w.heap[t]?=some (.cells #[.int .i64 n] 121 (0,0))/\0<b/\w.cell? ⟨0,0,none⟩=some (.iface 220 (.agg #[.pointer (some ⟨1,117,none⟩)]))
def PX (x:List zk)(w:Zb):Prop:=
 (∃h g e f sv b a d y,x= {v:=Wd #[.agg h,.slice g e f,sv,MD b],recovered:=false}::y/\ME b w h g e f sv a d)\/
 (∃c i b y,x= {v:=Wd #[c,i,MD b],recovered:=false}::y/\wW b w c i)
def PX.blind:C_ PX:=λx w t h=>by
 rcases h with⟨j,i,f,g,sv,b,a,c,y,e,h⟩|⟨d,k,b,y,e,h⟩
 .exact .inl ⟨j,i,f,g,sv,b,a,c,y,e,h.Ar λ_ _ _ h=>h⟩
 exact .inr ⟨d,k,b,y,e,h⟩
variable {y:List zk}
def Mb {Q:Zo}{x:List zk}(h:(C5 Q).raise x=(C5 Q).raise y):x=y:=by
 have:=congrArg Frame.mode h;simpa[C5,ZaV]using this
section
variable {B:H9}{fn:Func}{Post:Zf->Zb->Prop}{ρ:Ren}{f f':ZM}{cs cs':List ZM}{w:Zb}
variable {P:Zo}
variable {gc a gc':Array Zf}
def Sr (hl:B.lcs=[C5 Lp])(F:B.K.seg=false)(d:C_ Post)(E:Env Lp P ρ)(o:Gh Lp P B ρ (f::cs) (f'::cs'))(j:∃w',WR ρ w w'){k:ZaQ}(q:Cv Lp B true (Ez Lp B fn Post PX) (AU (Zq Lp k a .normal) (f::cs)) w)
 {X:Zf} (h:Calls Lp k a (tp w λ_ _=>0) λe w'=>e=.panicked [{v:=X,recovered:=false}]/\YH w (tp w λ_ _=>0) w'):
  ∃w₂ y,PX ({v:=X,recovered:=false}::y) w₂/\ET w w₂ w/\∀t c e f,t<w.heap.size->w₂.heap[t]?=some (.cells c e f)->w.heap[t]?=some (.cells c e f):=by
 have K:Dg Lp B true (Ez Lp B fn Post PX):=I5 hl d PX.blind;have G:=KO (P':=Lp) (fn:=fn) (Post:=Post) (PostX:=PX) hl;have m:cs≠ []:=by
  have:=o.deep;rw[hl]at this;intro e;rw[e]at this;simp at this
 have D:Calls Lp k a (tp w λ_ _=>0) (gr (λ_ _=>False) λx w'=>x=[{v:=X,recovered:=false}]/\YH w (tp w λ_ _=>0) w'):=h.mono λe w' ⟨z,d⟩=>by rw[z];exact⟨rfl,d⟩
 rcases R4 G m (q.Ds K.blind _) D with⟨_,_,hF,_⟩|⟨x,w₁,⟨rfl,n⟩,l⟩
 .exact hF.elim
 obtain⟨w',j⟩:=j;have A:DW ρ w₁:=(j.dw).Ar (λb J d=>(j.lt d).1) (λb d=>n.block b d);obtain⟨w₂,y,i,H⟩:=TQ K G.KJ hl F (nZ (P':=Lp)) E o q l.Ds A;rcases H with⟨I,r,_⟩|⟨x,s,C⟩
 .exfalso
  rw[hl]at r;cases r
 have e: [{v:=X,recovered:=false}]++y=x:=Mb (congrArg (λg:Zi=>g.frame) s);subst e;refine⟨w₂,y,C,λp v l h=>?_,λt c e f u h=>?_⟩
 .have:=Cr.back i h
  rw[n.cell l]at this;exact this
 have:=(i.same _ _ _ _).1 h;rw[n.block t u]at this;exact this
end
def afW (t:Array Zf)(h:t.size=3):∃c b a,t= #[c,b,a]:=by
 obtain⟨l⟩:=t
 match l,h with
 | [c,b,a],_=>exact⟨c,b,a,rfl⟩
def NQ {c c':Array Zf}{b:List zk}(h:({v:=Wd c,recovered:=false}:zk)::y= {v:=Wd c',recovered:=false}::b):c=c':=by
 have a:=congrArg PanicEntry.v (zL h).1;unfold Wd at a
 injection a with _ d
 injection d
variable {c1 pb k Wg B n r K c b ln lc lo hi:Nat}
def Su {a:Nat}(h:MD b=MD a):b=a:=by
 unfold MD at h
 injection h with d
 injection d with c
 injection c
section
variable {B:H9}{fn:Func}{Post:Zf->Zb->Prop}{ρ:Ren}{f f':ZM}{cs cs':List ZM}{w:Zb}
variable {P:Zo}
variable {gc a gc':Array Zf}
def aau (hl:B.lcs=[C5 Lp])(R:B.K.seg=false)(t:C_ Post)(E:Env Lp P ρ)(x:Gh Lp P B ρ (f::cs) (f'::cs'))(r:∃w',WR ρ w w')(u:a.size=3)(z:Cv Lp B true (Ez Lp B fn Post PX) (AU (Zq Lp 104 a .normal) (f::cs)) w):
  ∃gc c ln lc sv rows fit,a= #[.agg gc,.slice c ln lc,sv]/\ME w w gc c ln lc sv rows fit:=by
 obtain⟨g,l,s,rfl⟩:=afW a u;have d:=Sf g l s (tp w λ_ _=>0) (by show((((zJ 1 0 3).cut 0:Nat):Int)==1)=true;decide);obtain⟨j,y,O,k,_⟩:=Sr hl R t E x r z d;rcases O with⟨gc,c,ln,lc,sv,b,rows,fit,q,e,h⟩|⟨D,S,b,q,e,_⟩
 .have J:=congrArg ZbD (NQ e)
  obtain⟨M,I⟩:=zL J;obtain⟨L,H⟩:=zL I;obtain⟨K,G⟩:=zL H;have o:=Su (zL G).1;have F:(tp w λ_ _=>0).heap.size=w.heap.size:=rfl;rw[F]at o;subst M L K o;refine⟨gc,c,ln,lc,s,rows,fit,rfl,⟨h.small,h.cap,h.gN,λi hi=>?_,h.row,h.oF,λi hi w₁ Q=>h.fits i hi w₁ λp v m d=>Q p v m (k p v m d)⟩⟩;obtain⟨N,C,n,A⟩:=h.there i hi;exact⟨N,C,n,k _ _ (by rw[CF];exact n) A⟩
 exfalso;have:=congrArg Array.size (NQ e);simp at this
variable {la:Option Addr}
variable {fit:Nat->Bool}
def gW (hl:B.lcs=[C5 Lp])(o:C_ Post)(t:B.lcs.length<(f::cs).length){rows:Nat->Zf}(H:ME w w gc la ln lc sv rows fit)
 (p:Cv Lp B true (Ez Lp B fn Post PX) (AU (Zq Lp 104 #[.agg gc,.slice la ln lc,sv] .normal) (f::cs)) w) (l:(CX rows fit 0 ln).length<=k) (j:k<=maxLen):
  ∃v w₁,Qb6 w w₁/\((CX rows fit 0 ln).length=0->v=.slice none 0 0)/\(0<(CX rows fit 0 ln).length->∃r,v=.slice (some ⟨r,0,none⟩) (CX rows fit 0 ln).length k/\w.heap.size<=r/\Room w₁ r k (CX rows fit 0 ln))/\
   CI Lp B true (AU (Zq Lp 104 #[.agg gc,.slice la ln lc,sv] .normal) (f::cs)) w (AU (f.finish v) cs) w₁:=by
 have K:Dg Lp B true (Ez Lp B fn Post PX):=I5 hl o PX.blind;have G:=KO (P':=Lp) (fn:=fn) (Post:=Post) (PostX:=PX) hl
 let T:Tape:=λ_ q=>match q with| .appendCap _ _ e=>if e=3 then 1 else k - (CX rows fit 0 ln).length|_=>0
 have n:=aJ (w:=tp w T) (H.Ar (w₁:=tp w T) λ_ _ _ h=>h) (by show((((zJ 1 0 3).cut 1:Nat):Int)==1)=false;decide);have s:Calls Lp 104 #[.agg gc,.slice la ln lc,sv] (tp w T) (gr (λv w₁=>YH w (tp w T) w₁/\((CX rows fit 0 ln).length=0->v=.slice none 0 0)/\(0<(CX rows fit 0 ln).length->∃r,v=.slice (some ⟨r,0,none⟩) (CX rows fit 0 ln).length k/\w.heap.size<=r/\Room w₁ r k (CX rows fit 0 ln))) λ_ _=>False):=n.mono λe w' h=>by
  obtain⟨w₁,a,d,c⟩:=h;rcases zQ (CX rows fit 0 ln).length with g|b
  .obtain⟨rfl,rfl⟩:=d g
   exact⟨a,λ_=>rfl,λh=>absurd h o!⟩
  obtain⟨rfl,rfl⟩:=c b;have i:w₁.tape=T:=a.tape;have m:grownCap w₁ (CX rows fit 0 ln).length 0 22=k:=by
   unfold grownCap;rw[i];show(CX rows fit 0 ln).length+(k - (CX rows fit 0 ln).length) % (2^63 - (CX rows fit 0 ln).length)=k;have u:maxLen=9223372036854775807:=rfl;rw[Nat.mod_eq_of_lt o!];omega
  rw[m];refine⟨(a.drew).alloc a.size _,λh=>absurd h o!,λ_=>⟨w₁,rfl,a.size,l,?_⟩⟩;have e:=heap_alloc_new w₁.drew (.cells ((CX rows fit 0 ln).toArray++Zt #[()] (k - (CX rows fit 0 ln).length)) 22);rw[<-IM];exact e
 obtain⟨v,w₁,⟨a,d,c⟩,b⟩:=Es G Lp.func104 rfl t (p.Ds K.blind T) s;exact⟨v,tp w₁ w.tape,⟨a.os,rfl,a.output,a.size,a.block⟩,d,c,(b w.tape).Ds⟩
end
end Go.Proofs.Fit
namespace Go.Proofs.Fit
open Go Go.Conc Go.FA Go.Pair Go.RowKit
open Go.ConcN (WgLive)
variable {ρ σ:Ren}
variable {W w₀ w w' wl w₁:Zb}
variable {Kr Kl gv lv sv x9 MH Lx Ly K0 K1 Qj Q_ cJ TY Tt Tu Tv Tx Ty Tz v u x:Zf}
def WR.wX (h:WR ρ w w'){a a':Addr}(m:AR ρ a a')(d:w.cell? a=some v):∃v',w'.cell? a'=some v'/\VR ρ v v':=by
 obtain⟨A,n⟩:=h.jv;obtain⟨b,c⟩:=m;obtain⟨o,u,j,i,g⟩:=h.obj _ _ b;obtain⟨t,k,s,r,q⟩:=n.obj _ _ b;unfold zy at*;rw[j]at d;rw[i];cases g with
 | @cells x p e f z l y=>
  dsimp only at d⊢;rw[c.1,c.2];split at d
  .cases d
  .rw[if_neg ‹_›]
   exact l.get d
 |_=>cases d
variable {e:Zs}
def j1 {c:Array Zf}:Cw (EJ w (.cells c e (0,c.size))) w:=by
 refine⟨e,c.size,?_,λa b=>?_⟩
 .unfold Yn
  rw[Io]
 unfold Yo;rw[Io];simp;omega
variable {c1 pb k Wg B n r K c b ln lc lo hi:Nat}
def dN {o:Obj}(h:Cw w b\/∃q,Quiet q/\w.heap[b]?=some q):Cw (EJ w o) b\/∃q,Quiet q/\(EJ w o).heap[b]?=some q:=by
 rcases h with h|⟨q,c,a⟩
 .exact .inl (ah h)
 exact .inr ⟨q,c,by rw[Il w o (Za.1 a).1];exact a⟩
def tH (h:ρ.P5 r c):(ρ.ext r c h) r=some c:=if_pos rfl
def Wk (h:ρ.P5 r c){d:Nat}(e:(ρ.ext r c h) b=some d):ρ b=some d\/(b=r/\d=c):=by
 have a:(if b=r then some c else ρ b)=some d:=e;split at a
 .cases a;exact .inr ⟨‹_›,rfl⟩
 exact .inl a
variable {gc a gc':Array Zf}
def NS (h:WR ρ wl w₀)(p:wl=r)(n:∀b,ρ b≠some c)(l:ρ.ok.low<r)(m:ρ.ok.low<c){a':Array Zf}{f:Nat×Nat}(s:w₀.heap[c]?=some (.cells a' e f))(q:f.2<=f.1)(t:BS ρ a a')
 (u:∀b d,ρ b=some d->Cw wl b\/∃o,Quiet o/\wl.heap[b]?=some o):
  ∃(g:Ren) (k:Zb),WR g k w₀/\k=r+1/\(∀b,b<r->k.heap[b]?=wl.heap[b]?)/\k.heap[r]?=some (.cells a e (0,a.size))/\ρ.le g/\g r=some c/\(∀b d,g b=some d->ρ b=some d\/(b=r/\d=c))/\
   ∀b d,g b=some d->Cw k b\/∃o,Quiet o/\k.heap[b]?=some o:=by
 subst p;have j:ρ.P5 wl c:=⟨n,l,m⟩;refine⟨ρ.ext _ _ j,EJ wl (.cells a e (0,a.size)),h.push j s (.cells _ (t.mono (VP h j)) (.inr (.inl q))),VO _ _,λb i=>Il _ _ i,Io _ _,VP h j,tH j,λb d i=>Wk j i,λb d i=>?_⟩;rcases Wk j i with i|⟨rfl,rfl⟩
 .exact dN (u b d i)
 exact .inl j1
structure wZ (ρ:Ren)(w wl:Zb)(UW:Ren)(gc:Array Zf)(la:Option Addr)(ln lc:Nat)(sv:Zf)(k n pb s0:Nat):Prop where
 size:wl=s0+4/\s0=w
 old:∀b:Nat,b<w.heap.size->wl.heap[b]?=(ag w).heap[b]?
 hl:wl.heap[s0]?=some (.cells #[.slice la ln lc] 27 (0,1))
 hp:wl.heap[s0+1]?=some (.cells #[.int .i64 k] 3 (0,1))
 hg:wl.heap[s0+2]?=some (.cells gc 112 (0,gc.size))
 hs:wl.heap[s0+3]?=some (.cells #[sv] 23 (0,1))
 sub:∀b c,ρ b=some c->UW b=some c
 ok:UW.ok=okW
 good:UW.good=Bh Zc okW BU false
 sp:UW.sp=λ_=>false
 nl:UW s0=some (n+1)
 np:UW (s0+1)=some pb
 ng:UW (s0+2)=some n
 ns:UW (s0+3)=some (n+2)
 only:∀b c,UW b=some c->ρ b=some c\/c=n+1\/c=pb\/c=n\/c=n+2
 lock:∀b c,UW b=some c->Cw wl b\/∃o,Quiet o/\wl.heap[b]?=some o
variable {la:Option Addr}
def aS (Jw:ρ.ok=ND)(H:WR ρ w w'){cR:Option Addr}{s:Zf}(NM:BS ρ gc gc')(wa:VR ρ (.slice la ln lc) (.slice cR ln lc))(P:VR ρ sv s)(hn:w'<=n)(hR:∀b,(∃a,ρ a=some b)->w₀.heap[b]?=w'.heap[b]?)(Xk:w₀.os=w'.os)(h0:∃f,w₀.heap[n]?=some (.cells gc' 112 f)/\f.2<=f.1)(h1:∃f,w₀.heap[n+1]?=some (.cells #[.slice cR ln lc] 27 f)/\f.2<=f.1)
 (h2:∃f,w₀.heap[n+2]?=some (.cells #[s] 23 f)/\f.2<=f.1) (Q:w₀.heap[pb]?=some (.cells #[.int .i64 k] 3 (0,0))) (fd:n+2<pb):
  ∃wl I,WR I wl w₀/\wZ ρ w wl I gc la ln lc sv k n pb w:=by
 have Jc:=H.lt ρ.base;have Xc:okW.low=ρ.ok.low:=by rw[Jw];rfl
 let g:=ρ.with okW (Bh Zc okW BU false) (λ_=>false) Xc
 have v:WR g (ag w) w':=WR.R6 (λf y=>by rw[Jw]at y;exact y) H;have Y:WR g (ag w) w₀:=⟨λb c e=>by
  obtain⟨o,o',p1,p2,p3⟩:=v.obj b c e;exact⟨o,o',p1,by rw[hR c ⟨b,e⟩];exact p2,p3⟩,Xk.trans v.os⟩
 have G:ρ.sub g:=R5 (ρ:=ρ) (good:=Bh Zc okW BU false) (sp:=λ_=>false) (hl:=Xc) (λf y=>by rw[Jw]at y;exact y);have u:∀b c,g b=some c->c<n:=λb c e=>Zl (H.lt e).2 hn;have O:(ag w).heap.size=w.heap.size:=nT w;have B:g.ok.low=ρ.ok.low:=Xc;have dl:∀b d,g b=some d->Cw (ag w) b\/∃o,Quiet o/\(ag w).heap[b]?=some o:=λb d e=>nU (ρ:=ρ) H e;have X:∀b c,ρ b=some c->g b=some c:=G.map;have ct:∀b c,g b=some c->ρ b=some c:=λb c h=>h;have r:g.ok=okW/\g.good=Bh Zc okW BU false/\g.sp=λ_=>false:=⟨rfl,rfl,rfl⟩;have bV:=wa.sub G;have bv:=BS.sub G NM;have bi:=P.sub G;generalize g=g at*;obtain⟨fl,Ka,Tq⟩:=h1;obtain⟨fg,GM,S⟩:=h0;obtain⟨fs,DX,R⟩:=h2;have J:∀x:Nat,g.ok.low<w+x:=λx=>by rw[B];omega
 have Qa:g.ok.low<n:=by rw[B];omega
 obtain⟨M,wY,w1,z1,be,W,p,ap,l,ck⟩:=NS (a:= #[.slice la ln lc]) Y O (c:=n+1) (λb e=>by have:=u _ _ e;omega) (J 0) o! Ka Tq (Bz.single bV) dl;have i1:∀b c,M b=some c->c<n\/c=n+1:=λb c e=>(l b c e).elim (λh=>.inl (u _ _ h)) λh=>.inr h.2;obtain⟨L,ed,w2,z2,A,V,t,an,j,ci⟩:=NS (a:= #[.int .i64 k]) w1 z1 (c:=pb) (λb e=>by have:=i1 _ _ e;omega) (by rw[p.2.1];exact J 1) (by rw[p.2.1];omega) Q (Zj _) (Bz.single (.int _ _)) ck;have i2:∀b c,L b=some c->c<n\/c=n+1\/c=pb:=λb c e=>(j b c e).elim (λh=>(i1 _ _ h).imp id .inl) λh=>.inr (.inr h.2);have F:=Ren.le_trans p t;obtain⟨K,du,w3,z3,q,U,m,am,z,b9⟩:=NS (a:=gc) w2 z2 (c:=n) (λb e=>by have:=i2 _ _ e;omega) (by rw[F.2.1];exact J 2) (by rw[F.2.1];omega) GM S (bv.mono F) ci;have i3:∀b c,K b=some c->c<n\/c=n+1\/c=pb\/c=n:=λb c e=>(z b c e).elim (λh=>(i2 _ _ h).imp id (Or.imp id .inl)) λh=>.inr (.inr (.inr h.2));have E:=Ren.le_trans F m;obtain⟨I,N,w4,z4,D,T,i,ai,Z,b8⟩:=NS (a:= #[sv]) w3 z3 (c:=n+2) (λb e=>by have:=i3 _ _ e;omega) (by rw[E.2.1];exact J 3) (by rw[E.2.1];omega) DX R (Bz.single (bi.mono E)) b9;have C:=Ren.le_trans E i;refine⟨N,I,w4,⟨z4,rfl⟩,λb e=>?_,?_,?_,?_,T,λb c e=>C.1 _ _ (X _ _ e),?_,?_,?_,?_,?_,i.1 _ _ am,ai,λb c e=>?_,b8⟩
 .rw[D b o!,q b o!,A b o!,be b e]
 .rw[D _ o!,q _ o!,A _ o!];exact W
 .rw[D _ o!,q _ o!];exact V
 .rw[D _ o!];exact U
 .rw[C.2.1];exact r.1
 .rw[C.2.2.1];exact r.2.1
 .rw[C.2.2.2];exact r.2.2
 .exact i.1 _ _ (m.1 _ _ (t.1 _ _ ap))
 .exact i.1 _ _ (m.1 _ _ an)
 rcases Z b c e with e|⟨_,rfl⟩
 .rcases z b c e with e|⟨_,rfl⟩
  .rcases j b c e with e|⟨_,rfl⟩
   .rcases l b c e with e|⟨_,rfl⟩
    .exact .inl (ct _ _ e)
    exact .inr (.inl rfl)
   exact .inr (.inr (.inl rfl))
  exact .inr (.inr (.inr (.inl rfl)))
 exact .inr (.inr (.inr (.inr rfl)))
def gX (wl:Zb)(p lo hi:Nat)(rows:Nat->Zf)(fit:Nat->Bool):Zf->Zb->Prop:=λv w=>
 ∃a,v=.tuple #[a,ptr p]/\Sh wl lo hi rows fit a w/\∀b,b<wl.heap.size->w.heap[b]?=wl.heap[b]?
variable {fit:Nat->Bool}
def gX.blind {p:Nat}{rows:Nat->Zf}:C_ (gX wl p lo hi rows fit):=λ_ _ _ h=>h
def Wl (lo hi:Nat->Nat)(d:Nat->Zf)(fit:Nat->Bool)(ρ:Ren)(k:Nat):Gk:=λS v w=>
 ∃(σ:Ren) (wl:Zb) (a A:Option Addr) (c:Nat),v=.agg #[.int .i64 k,.slice A (CX d fit (lo k) (hi k)).length c]/\σ.ok=okW/\WR σ wl w/\(∀b c,σ b=some c->S c)/\(∀b c,ρ b=some c->σ b=some c)/\
  VR σ (.slice a (CX d fit (lo k) (hi k)).length c) (.slice A (CX d fit (lo k) (hi k)).length c)/\
  ∀j u,(CX d fit (lo k) (hi k))[j]?=some u->∃e,A=some e/\(∃b,σ b=some e.block)/\w.cell? (e.add j)=some u
variable {A7:Nat->Zf}
variable {S:Nat->Prop}
def Wl.rely {lo hi:Nat->Nat}(h:Wl lo hi A7 fit ρ k S v w)(r:D1 S w w₁):Wl lo hi A7 fit ρ k S v w₁:=by
 obtain⟨σ,wl,a,A,c,p,o,n,d,m,l,i⟩:=h;refine⟨σ,wl,a,A,c,p,o,n.rely (S:=λc=>∃b,σ b=some c) (λc=>Iff.rfl) ⟨λc ⟨b,g⟩=>r.same c (d b c g),r.size,r.os⟩,d,m,l,λj u f=>?_⟩;obtain⟨t,s,⟨b,e⟩,q⟩:=i j u f;exact⟨t,s,⟨b,e⟩,(zn (by rw[CF];exact r.same _ (d b _ e))).trans q⟩
def NT {rows:Nat->Zf}{j:Nat}(h:(CX rows fit lo hi)[j]?=some u):∃i,lo<=i/\i<hi/\u=rows i/\∀A7:Nat->Zf,(CX A7 fit lo hi)[j]?=some (A7 i):=by
 unfold CX at h;rw[YL]at h;obtain⟨i,a,rfl⟩:=zc.1 h;have b:=(List.mem_filter.1 (Z3 a)).1;rw[List.mem_range']at b;obtain⟨x,c,rfl⟩:=b;refine⟨_,o!,o!,rfl,λA7=>?_⟩;unfold CX;rw[YL,a]
 rfl
def Q' (rows a:Nat->Zf)(fit:Nat->Bool)(lo hi:Nat):(CX rows fit lo hi).length=(CX a fit lo hi).length:=by simp[CX]
def VR.Gp {a:Option Addr}(h:VR σ (.slice a n c) x):∃A,x=.slice A n c/\(Om σ a A\/n=0/\c=0):=by
 cases h with
 |slice _ _ h=>exact⟨_,rfl,.inl h⟩
 |void _ _=>exact⟨_,rfl,.inr ⟨rfl,rfl⟩⟩
def VR.acr (h:VR σ (.slice none n c) x):x=.slice none n c:=by
 cases h with
 | @slice _ A _ _ h=>
  cases A with
  |none=>rfl
  |some A=>exact h.elim
def WR.gY (h:WR ρ w w'){o:Nat}(e:ρ b=some c)(d:w.cell? ⟨b,o,none⟩=some v):∃v',w'.cell? ⟨c,o,none⟩=some v'/\VR ρ v v':=WR.wX h (a:=⟨b,o,none⟩) (a':=⟨c,o,none⟩) ⟨e,rfl,rfl⟩ d
def add0 (g j:Nat):(g:Addr).add j=⟨g,j,none⟩:=by
 unfold Zcu;by_cases h:j=0<;>simp[h]
section
variable {ρ UW:Ren}{w wl w₀:Zb}{gc:Array Zf}{la:Option Addr}{ln lc:Nat}{sv:Zf}{k n pb s0:Nat}{rows A7:Nat->Zf}{fit:Nat->Bool}{T₀:Nat->Prop}
def Wm (hw:WR UW wl w₀)(a:wZ ρ w wl UW gc la ln lc sv k n pb s0)(hk:k<2)(H:ME w w gc la ln lc sv rows fit)
 (hR:∀i,i<ln->VR ρ (rows i) (A7 i)) (O:∀f,ρ.ok f=true->okW f=true)
 (hT:∀b c,UW b=some c->T₀ c) (Az:∀b,T₀ b->b<w₀.heap.size) (w_:w₀.heap[pb]?=some (.cells #[.int .i64 k] 3 (0,0))) (U:w₀.cell? ⟨n+4,0,none⟩=some (.chan (some (n+3)))) (T:T₀ (n+4))
 (W:¬T₀ (n+5)) (ai:n+5<w₀) (KW:WgLive 206 (n+5) w₀):
  Be Zc false 206 (n+5) T₀ (Pair.AtSend Zc 206 (n+5) (n+3) (Wl (λk=>k*ln / 2) (λk=>(k+1)*ln / 2) A7 fit ρ k)) T₀ (born Zc (call156 (n+5) (n+1) pb n (n+2) (n+4))) w₀:=by
 have ER:s0=w:=a.size.2;subst ER;have d:∀ {wl:Zb} {b:Nat} {x:Zf} {e:Zs} {f:Nat×Nat},wl.heap[b]?=some (.cells #[x] e f)->wl.cell? b=some x:=λh=>by unfold zy;rw[h];rfl
 have H':ME w wl gc la ln lc sv rows fit:=H.Ar λp v hp V=>by
  rw[<-V, <-nV w p];exact zn (a.old _ hp)
 have Mc:=λt=>alq (wl:=tp wl t) (b:=w) (l:=w) (p:=w+1) (g:=w+2) (s:=w+3) (fz:=(0,gc.size)) (H'.Ar (w₁:=tp wl t) λ_ _ _ h=>h) (by show w<=wl.heap.size;rw[a.size.1];omega) k hk (d a.hl) (d a.hp) a.hg (d a.hs);have hW:=worker (Wg:=n+5) (Ch:=n+3) (f:=n+4) (T₀:=T₀) AP.twins (AP.afE a.ok a.good a.sp) a.sp AP.jv (by rw[a.ok];exact aa9) a.nl a.np a.ng a.ns hw (Post:=gX wl (w+1) (k*ln / 2) ((k+1)*ln / 2) rows fit) gX.blind
  (λt=>(Mc t).mono λe w' h=>by
   obtain⟨v,rfl,Y,D⟩:=h;exact⟨v,rfl,Y,λb a=>D.block b a⟩)
  (λv w' h b o _ ho=>by
   obtain⟨_,_,_,X⟩:=h;rw[X b (Za.1 ho).1];exact ho)
  (λv6 v2 w' h=>by
   obtain⟨v,e,D,_⟩:=h;have J:=congrArg ZbD (Zdt e);obtain⟨e1,Z⟩:=zL J;obtain⟨e2,_⟩:=zL Z;subst e1 e2;rcases D.2 with⟨rfl,_⟩|⟨g,y,_,rfl,_⟩
   .exact⟨rfl,_,_,_,rfl⟩
   exact⟨rfl,_,_,_,rfl⟩)
  a.lock hT Az (k:=k) (d w_) U T W ai KW
 refine hW.imp λS g w₁ h=>?_;obtain⟨h0,Bs,v,z,Y,D,X⟩:=h;refine⟨h0,Bs,v,z,Y,?_,X⟩;obtain⟨σ,G,v6,v2,am,rfl,L,q2,q3,I,r,q6,K⟩:=D;obtain⟨v,e,p2,p3⟩:=q6;have J:=congrArg ZbD (Zdt e);obtain⟨e1,Z⟩:=zL J;subst e1;clear e J Z;have m:ρ.sub σ:=⟨λb c Kf=>L.1 b c (a.sub b c Kf),λf U=>by rw[L.2.1,a.ok];exact O f U⟩;have Jw:σ.ok=okW:=L.2.1.trans a.ok;have Ci:∀i,i<ln->VR σ (rows i) (A7 i):=λi hi=>(hR i hi).sub m;rcases p2.2 with⟨rfl,N⟩|⟨g,y,E,rfl,tN,lZ,l9,ap,an,R⟩
 .obtain⟨A,rfl,C⟩:=VR.Gp r
  rw[Q' rows A7]at N;refine⟨σ,G,none,A,0,?_,Jw,I,K,m.map,?_,λj u q=>?_⟩
  .rw[N]
  .rw[N];exact r
  dsimp only at q;have:=(Zm.1 q).1;omega
 obtain⟨A,rfl,C⟩:=VR.Gp r;rcases C with C|⟨Vo,_⟩
 rotate_left
 .rw[Q' rows A7]at Vo
  refine⟨σ,G,some ⟨g,0,none⟩,A,y,?_,Jw,I,K,m.map,by rw[Q' rows A7]at r;exact r,λj u q=>?_⟩
  .rw[Q' rows A7]
  dsimp only at q;have:=(Zm.1 q).1;omega
 cases A with
 |none=>exact C.elim
 |some A=>
 obtain⟨M,aT,xa⟩:=C;obtain⟨ab,ao,aq⟩:=A;dsimp only at M aT xa;subst aT xa;rw[Q' rows A7]at r;refine⟨σ,G,some ⟨g,0,none⟩,some ⟨ab,0,none⟩,y,?_,Jw,I,K,m.map,r,λj u q=>?_⟩
 .rw[Q' rows A7]
 dsimp only at q;obtain⟨i,i1,i2,rfl,i4⟩:=NT q;have F:i<ln:=by
  have:(k+1)*ln / 2<=ln:=by
   have:k=0\/k=1:=o!
   rcases this with rfl|rfl<;>omega
  omega
 have Q:(E.toList.take ((CX rows fit (k*ln / 2) ((k+1)*ln / 2)).length*1))[j]?=some (rows i):=by rw[R];exact i4 rows
 have P:=(Zm.1 Q).1;rw[ZcV]at P;rw[Z2 o!]at Q;have V:G.cell? ⟨g,j,none⟩=some (rows i):=by
  rw[cell_of_row G g j E 22 (0,0) lZ];rw[<-Q];simp
 obtain⟨x,x1,x2⟩:=WR.gY I M V;obtain⟨ra,rn,rc,hr,tE⟩:=H.row i F;have B:=Ci i F;rw[hr]at x2 B;have e:=VR.OL x2 B tE;subst e;exact⟨⟨ab,0,none⟩,rfl,⟨g,M⟩,by rw[add0];exact x1⟩
end
end Go.Proofs.Fit
set_option linter.unusedSimpArgs false
namespace Go.Proofs.Fit
open Go Go.Conc Go.FA Go.RowKit
def Wn:Zf:=.agg #[.int .i64 0,()]
section
variable {n:Nat}{gv lv sv x9 MH Lx Ly K0 K1 Kr Kl jX Qj Q_ oP TY Tt Tu Tv Tx Ty Tz:Zf}{cs:List ZM}
def UX (w:Zb):za Zc true (Kc (TJ n gv lv sv x9 MH Lx Ly K0 K1 Kr Kl jX Qj Q_ (.chan (some (n+3))) oP TY Tt Tu Tv Tx Ty Tz) cs) w=
  .comm (Kc (TJ n gv lv sv x9 MH Lx Ly K0 K1 Kr Kl jX Qj Q_ (.chan (some (n+3))) oP TY Tt Tu Tv Tx Ty Tz) cs) #[rcase (n+3) Wn] true (.recv true) w #[]:=by
 unfold Kc;simp only[PE,k13,Lz,JK,JL,Ma,Kk,GQ,FU,Eb,Dt,DI,BC,zK,Zw];rw[stepG_comm (w':=w) (cases:= #[rcase (n+3) Wn]) (blocking:=true) (shape:=.recv true) rfl rfl d! (by simp[go_sem,TJ,rcase,Wn,ZdI,Zcy])];simp[listed,go_sem,TJ,ZdI,Zcy,seen]
def PG (v:Zf):YU (Kc (TJ n gv lv sv x9 MH Lx Ly K0 K1 Kr Kl jX Qj Q_ (.chan (some (n+3))) oP TY Tt Tu Tv Tx Ty Tz) cs) v=
  LA (TJ n gv lv sv x9 MH Lx Ly K0 K1 Kr Kl jX Qj Q_ (.chan (some (n+3))) v TY Tt Tu Tv Tx Ty Tz) cs:=by
 unfold Kc LA;rw[UL];simp[PE,JK,Ma,Kk,GQ,FU,Eb,Dt,DI,BC,zK,TJ,Zck]
end
structure Drn (W0:Zb)(n K:Nat)(w:Zb)(buf:Array Zf)(a b:Zf)(sz:Nat):Prop where
 size:w=sz/\K<sz
 old:∀c,c<K->c≠n+3->w.heap[c]?=W0.heap[c]?
 chan:∃s r tm,w.heap[n+3]?=some (.chan 2 buf true s r tm)
 kept:w.heap[K]?=some (.cells #[a,b] 210 (0,0))
 os:w.os=W0.os
 tape:w.tape=W0.tape
 output:w.output=W0.output
def tO (k:Nat)(v a b:Zf):Zf×Zf:=if k=0 then(v,b) else(a,v)
section
variable {Shun:Loc->Prop}{B n K k:Nat}{W0 W:Zb}{gv lv sv x9 MH Lx Ly K0 K1 Kr Kl Qj Q_ oP TY Tt Tu Tv Tx Ty Tz a b:Zf}{va:Option Addr}{vn vc sz:Nat}{buf:Array Zf}{cs:List ZM}{gs:Array Zi}{t:YZ}{q:Nat->Nat}{sl:Option (Nat×Nat)}
def LB (X:Lone Zc Shun B (Kc (TJ n gv lv sv x9 MH Lx Ly K0 K1 Kr Kl (Du K) Qj Q_ (.chan (some (n+3))) oP TY Tt Tu Tv Tx Ty Tz) cs) gs t q)(F:k=0\/k=1)
 (Y:∀p:Addr,K<=p.block->¬Shun (.cell p)) (hB:sz<B) (hn:n+3<K) (i:Drn W0 n K W buf a b sz) (O:buf[0]?=some (.agg #[.int .i64 k,.slice va vn vc])):
  ∃N gs' w' I7 L T D C A z y x w v u,ZaE Zc N (Yj gs W sl) t=(.next (Yj gs' w' I7),L)/\Lone Zc Shun B (Kc (TJ n gv lv sv x9 MH Lx Ly K0 K1 Kr Kl (Du K) D Q_ (.chan (some (n+3))) C A z y x w v u) cs) gs' L T/\
   Drn W0 n K w' (buf.extract 1 buf.size) (tO k (.slice va vn vc) a b).1 (tO k (.slice va vn vc) a b).2 (sz+1):=by
 obtain⟨s,r,g,m⟩:=i.chan;have G:0<buf.size:=(Za.1 O).1;have H:buf.getD 0 Ze=.agg #[.int .i64 k,.slice va vn vc]:=by rw[Yp,O];rfl
 obtain⟨N,CQ,d,CU,Ea,GJ,V,Q⟩:=aQ (sl:=sl) (c:=n+3) rfl X (λd=>UX (W.at d)) m G (by have:=i.size;omega);rw[H,PG]at Q;have LP:K≠n+3:=o!
 have l:((W.setChan (n+3) 2 (buf.extract 1 buf.size) true s (r+1) g).at d).heap[K]?=some (.cells #[a,b] 210 (0,0)):=by
  rw[<-i.kept];exact Zk o!
 have U:((W.setChan (n+3) 2 (buf.extract 1 buf.size) true s (r+1) g).at d).heap.size=sz:=(size_setChan _ _ _ _ _ _ _ _).trans i.size.1;have S:∀c,c≠n+3->((W.setChan (n+3) 2 (buf.extract 1 buf.size) true s (r+1) g).at d).heap[c]?=W.heap[c]? :=λc m=>Zk (Za0 m);have L6:((W.setChan (n+3) 2 (buf.extract 1 buf.size) true s (r+1) g).at d).heap[n+3]?=some (.chan 2 (buf.extract 1 buf.size) true s (r+1) g):=ZV (Za.1 m).1;have I:((W.setChan (n+3) 2 (buf.extract 1 buf.size) true s (r+1) g).at d).os=W0.os/\((W.setChan (n+3) 2 (buf.extract 1 buf.size) true s (r+1) g).at d).tape=W0.tape/\((W.setChan (n+3) 2 (buf.extract 1 buf.size) true s (r+1) g).at d).output=W0.output:=⟨i.os,i.tape,i.output⟩;generalize (W.setChan (n+3) 2 (buf.extract 1 buf.size) true s (r+1) g).at d=W1 at*;have f:∃j,W1.cell? ⟨K,k,none⟩=some j:=by
  rcases F with rfl|rfl
  .exact⟨a,by unfold zy;rw[l];rfl⟩
  exact⟨b,by unfold zy;rw[l];rfl⟩
 obtain⟨j,f⟩:=f;have R:W1.frozen? ⟨K,k,none⟩=false:=by unfold Yo;rw[l];simp
 have D':=i.size;obtain⟨Mt,I8,O2,J,DQ,Ic,Z,FC,⟨rfl,Hf,rfl⟩,K2⟩:=Cf (sl:=CU) (λ_ _ _ h=>h) Q (dM (Shun:=Shun) (B:=B) (W:=W1) F (λp E=>Y p (by rcases E with E|E<;>omega)) o! o! f R);refine⟨N+Mt,I8,_,DQ,Ic,Z,_,_,_,_,_,_,_,_,_,by rw[Go.FA.runNT_add _ _ _ _ _ _ V];exact FC,K2,?_⟩;have M:∀c,c<sz->c≠K->(((W1.alloc (.cells #[.int .i64 k,.slice va vn vc] 209)).setCell ⟨K,k,none⟩ (.slice va vn vc)).at Hf).heap[c]?=W1.heap[c]? :=λc P o=>by
  show((W1.alloc _).setCell _ _).heap[c]?=_;rw[Y4 _ _ _ _ o,zD _ _ _ o!]
 refine⟨⟨?_,o!⟩,λc P o=>?_,⟨s,r+1,g,?_⟩,?_,I.1,I.2.1,I.2.2⟩
 .show((W1.alloc _).setCell _ _).heap.size=_
  simp[Z8,U]
 .rw[M c o! o!,S c o,i.old c P o]
 .rw[M _ o! o!];exact L6
 show((W1.alloc _).setCell _ _).heap[K]?=_;unfold Z8;have e:(W1.alloc (.cells #[.int .i64 k,.slice va vn vc] 209)).heap[K]?=some (.cells #[a,b] 210 (0,0)):=by rw[zD _ _ _ o!];exact l
 simp only[Y7,if_pos,e,Zdh];rcases F with rfl|rfl<;>rfl
variable {c1 pb Wg r c ln lc lo hi:Nat}
variable {tm:Bool}
def drain {X V:Option Addr}{n0 Q R:Nat}{b:List Nat}{vals:Nat->Zf}(hX:Lone Zc Shun B (We n pb gv lv sv cs) gs t q)(jK:b=[0,1]\/b=[1,0])
 (Xf:vals 0=.agg #[.int .i64 0,.slice X n0 R]) (me:vals 1=.agg #[.int .i64 1,.slice V Q c1]) (lS:W.heap[n+3]?=some (.chan 2 (b.map vals).toArray false 2 0 tm)) (hc:W.cell? ⟨n+4,0,none⟩=some (.chan (some (n+3))))
 (hS:∀p:Addr,p.block=n+4\/W.heap.size<=p.block->¬Shun (.cell p)) (hB:W+3<=B):
  ∃N gs' w' I7 t' q' T,ZaE Zc N (Yj gs W sl) t=(.next (Yj gs' w' I7),t')/\Lone Zc Shun B (AU (Zq Zc 159 #[.slice W 2 2] .normal) (aP T [1,2]::cs)) gs' t' q'/\
   (∃y9 O L K J I H G F E D C A w v u o m l j i g,T=TK n gv lv sv y9 K J I H G F E O L D C A w v u o m l j i g)/\
   Drn W n W w' #[] (.slice X n0 R) (.slice V Q c1) (W+3):=by
 have Az:n+4<W:=ZH W _ hc;obtain⟨N,CQ,dp,fm,CU,Ea,GJ,gZ,⟨rfl,fi,rfl⟩,Gn⟩:=Cf (sl:=sl) (λ_ _ _ h=>h) hX (dK (pb:=pb) (Shun:=Shun) (B:=B) (W:=W) (λp hp=>hS p (.inl hp)) o! o! hc lS Az);have hz:((W.setChan (n+3) 2 (b.map vals).toArray true 2 0 tm)).heap.size=W.heap.size:=size_setChan _ _ _ _ _ _ _ _;have hD:Drn W n W (((W.setChan (n+3) 2 (b.map vals).toArray true 2 0 tm).alloc (.cells #[(),()] 210)).at fi) (b.map vals).toArray () () (W+1):=by
  refine⟨⟨?_,o!⟩,λc h1 h2=>?_,⟨2,0,tm,?_⟩,?_,rfl,rfl,rfl⟩
  .show((W.setChan _ _ _ _ _ _ _).alloc _).heap.size=_
   simp[hz]
  .show((W.setChan _ _ _ _ _ _ _).alloc _).heap[c]?=_
   rw[zD _ _ _ (by rw[hz];exact h1)];exact Zk (Za0 h2)
  .show((W.setChan _ _ _ _ _ _ _).alloc _).heap[n+3]?=_
   rw[zD _ _ _ (by rw[hz];omega)];exact ZV o!
  show((W.setChan _ _ _ _ _ _ _).alloc _).heap[W.heap.size]?=_;rw[<-hz];exact Zav
 have U:∀ {N M:Nat} {x y z:Machine} {t Ea f:YZ},ZaE Zc N x t=(.next y,Ea)->ZaE Zc M y Ea=(.next z,f)->ZaE Zc (N+M) x t=(.next z,f):=λh k=>by rw[Go.FA.runNT_add _ _ _ _ _ _ h];exact k
 have tj:∀p:Addr,W.heap.size<=p.block->¬Shun (.cell p):=λp hp=>hS p (.inr hp);have RV:∀ {N:Nat} {I8:Array Zi} {a:Zb} {P:Option (Nat×Nat)} {f:YZ} {TP:Nat->Nat} {z9 dl ct ck ci b9 b8 bV du bv bi be ap an am ai Z Y:Zf},ZaE Zc N (Yj gs W sl) t=(.next (Yj I8 a P),f)->
   Lone Zc Shun B (Kc (TJ n gv lv sv z9 dl ct ck ci b9 b8 bV (Du W) du bv (.chan (some (n+3))) bi be ap an am ai Z Y) cs) I8 f TP->Drn W n W a #[] (.slice X n0 R) (.slice V Q c1) (W+3)->
   ∃N gs' w' I7 t' q' T,ZaE Zc N (Yj gs W sl) t=(.next (Yj gs' w' I7),t')/\Lone Zc Shun B (AU (Zq Zc 159 #[.slice W 2 2] .normal) (aP T [1,2]::cs)) gs' t' q'/\
   (∃y9 O L K J I H G F E D C A w v u o m l j i g,T=TK n gv lv sv y9 K J I H G F E O L D C A w v u o m l j i g)/\
   Drn W n W w' #[] (.slice X n0 R) (.slice V Q c1) (W+3):=by
  intro N I8 a P f TP z9 dl ct ck ci b9 b8 bV du bv bi be ap an am ai Z Y FC K2 e;obtain⟨s,r,tm,xc⟩:=e.chan;obtain⟨jy,oU,fd,aU,nQ,ed,I1,S⟩:=O3 (sl:=P) (c:=n+3) rfl K2 (λd=>UX (a.at d)) xc o!;rw[PG]at S;obtain⟨fy,XW,fu,KU,XY,nS,sV,RZ,⟨rfl,fw,rfl⟩,aV⟩:=Cf (sl:=aU) (λ_ _ _ h=>h) S (j0 (Shun:=Shun) (B:=B) (W:=a.at fd));exact⟨_,XW,_,XY,nS,sV,_,U FC (U I1 RZ),aV,⟨_,_,_,_,_,_,_,_,_,_,_,_,_,_,_,_,_,_,_,_,_,_,rfl⟩,⟨e.size,e.old,⟨s,r,tm,xc⟩,e.kept,e.os,e.tape,e.output⟩⟩
 rcases jK with rfl|rfl
 .obtain⟨Mt,I8,a,P,f,TP,_,_,_,_,_,_,_,_,_,FC,K2,e⟩:=LB (sl:=CU) Gn (k:=0) (.inl rfl) tj o! o! hD (va:=X) (vn:=n0) (vc:=R) (by simp[Xf])
  obtain⟨jy,oU,DZ,aU,nQ,ed,_,_,_,_,_,_,_,_,_,I1,S,XV⟩:=LB (sl:=P) K2 (k:=1) (.inr rfl) tj o! o! e (va:=V) (vn:=Q) (vc:=c1) (by simp[me]);exact RV (U gZ (U FC I1)) S (by simpa[tO]using XV)
 obtain⟨Mt,I8,a,P,f,TP,_,_,_,_,_,_,_,_,_,FC,K2,e⟩:=LB (sl:=CU) Gn (k:=1) (.inr rfl) tj o! o! hD (va:=V) (vn:=Q) (vc:=c1) (by simp[me]);obtain⟨jy,oU,DZ,aU,nQ,ed,_,_,_,_,_,_,_,_,_,I1,S,XV⟩:=LB (sl:=P) K2 (k:=0) (.inl rfl) tj o! o! e (va:=X) (vn:=n0) (vc:=R) (by simp[Xf]);exact RV (U gZ (U FC I1)) S (by simpa[tO]using XV)
end
end Go.Proofs.Fit
namespace Go.Proofs.Fit
open Go Go.Conc Go.FA Go.Pair Go.RowKit
open Go.ConcN (WgLive)
open Go.ConcR (WgAt)
def oV (c b a:Zf)(cs:List ZM):AU (Zq Zc 104 #[c,b,a] .normal) cs=G ((base 104).at ⟨#[c,b,a,Ze,Ze,Ze,Ze,Ze,Ze,Ze,Ze,Ze,Ze,Ze,Ze,Ze,Ze,Ze,Ze,Ze,Ze,Ze,Ze,Ze,Ze,Ze,Ze,Ze,Ze,Ze,Ze,Ze],[]⟩ [.code BC]) cs:=by
 simp[AU,G,Zq,Frame.at,base,BC,Tryz.func104,zK]
def Sx (S:Nat->Prop)(n:Nat):Nat->Prop:=λb=>S b\/b=n\/b=n+1\/b=n+2\/b=n+4
structure Laid (w' W:Zb)(n:Nat)(gc':Array Zf)(lv sv:Zf):Prop where
 size:W=n+6/\w'=n
 old:∀b,b<n->W.heap[b]?=w'.heap[b]?
 g:W.heap[n]?=some (.cells gc' 112 (0,0))
 l:W.heap[n+1]?=some (.cells #[lv] 27 (0,0))
 s:W.heap[n+2]?=some (.cells #[sv] 23 (0,0))
 ch:W.heap[n+3]?=some (.chan 2 #[] false 0 0 false)
 chb:W.heap[n+4]?=some (.cells #[.chan (some (n+3))] 197 (0,0))
 wg:W.heap[n+5]?=some (.cells #[.int .u64 0,.int .u32 0] 206 (0,0))
 os:W.os=w'.os
 tape:W.tape=w'.tape
 output:W.output=w'.output
def tP (w':Zb)(d:Array Zf)(lv sv:Zf):Laid w' (W1 w' d lv sv) w' d lv sv:=by
 have a:∀(w:Zb) (o:Obj),(w.alloc o).heap.size=w.heap.size+1:=λw o=>i!
 have e:∀(w:Zb) (o:Obj),(w.alloc o).heap[w.heap.size]?=some o:=λw o=>Zav;have c:∀(w:Zb) (o:Obj) (b:Nat),b<w.heap.size->(w.alloc o).heap[b]?=w.heap[b]? :=λw o b h=>zD _ _ _ h;unfold W1;refine⟨⟨by simp only[a],rfl⟩,λb f=>?_,?_,?_,?_,?_,?_,?_,rfl,rfl,rfl⟩
 .rw[c _ _ _ (by simp only[a];omega),c _ _ _ (by simp only[a];omega),c _ _ _ (by simp only[a];omega),c _ _ _ (by simp only[a];omega),c _ _ _ (by simp only[a];omega),c _ _ _ o!]
 .rw[c _ _ _ (by simp only[a];omega),c _ _ _ (by simp only[a];omega),c _ _ _ (by simp only[a];omega),c _ _ _ (by simp only[a];omega),c _ _ _ (by simp only[a];omega)]
  exact e _ _
 .rw[c _ _ _ (by simp only[a];omega),c _ _ _ (by simp only[a];omega),c _ _ _ (by simp only[a];omega),c _ _ _ (by simp only[a];omega)]
  have:=e (w'.alloc (.cells d 112)) (.cells #[lv] 27);rwa[a]at this
 .rw[c _ _ _ (by simp only[a];omega),c _ _ _ (by simp only[a];omega),c _ _ _ (by simp only[a];omega)]
  have:=e ((w'.alloc (.cells d 112)).alloc (.cells #[lv] 27)) (.cells #[sv] 23);rwa[a,a]at this
 .rw[c _ _ _ (by simp only[a];omega),c _ _ _ (by simp only[a];omega)]
  have:=e (((w'.alloc (.cells d 112)).alloc (.cells #[lv] 27)).alloc (.cells #[sv] 23)) (.chan 2 #[] false 0 0 false);rwa[a,a,a]at this
 .rw[c _ _ _ (by simp only[a];omega)]
  have:=e ((((w'.alloc (.cells d 112)).alloc (.cells #[lv] 27)).alloc (.cells #[sv] 23)).alloc (.chan 2 #[] false 0 0 false)) (.cells #[.chan (some (w'.heap.size+3))] 197);rwa[a,a,a,a]at this
 have:=e (((((w'.alloc (.cells d 112)).alloc (.cells #[lv] 27)).alloc (.cells #[sv] 23)).alloc (.chan 2 #[] false 0 0 false)).alloc (.cells #[.chan (some (w'.heap.size+3))] 197)) (.cells #[.int .u64 0,.int .u32 0] 206);rwa[a,a,a,a,a]at this
variable {W w₀ w w' wl w₁:Zb}
variable {c1 pb k Wg B n r K c b ln lc lo hi:Nat}
variable {gc a gc':Array Zf}
variable {Kr Kl gv lv sv x9 MH Lx Ly K0 K1 Qj Q_ cJ TY Tt Tu Tv Tx Ty Tz v u x:Zf}
def Laid.at (h:Laid w' W n gc' lv sv)(d:Nat):Laid w' (W.at d) n gc' lv sv:=⟨h.size,h.old,h.g,h.l,h.s,h.ch,h.chb,h.wg,h.os,h.tape,h.output⟩
variable {A7:Nat->Zf}
variable {fit:Nat->Bool}
variable {ρ σ:Ren}
def tQ {lo hi:Nat->Nat}:I' 206 Wg (Wl lo hi A7 fit ρ):=λ_ _ _ _ _ h r=>h.rely r.base
abbrev TA (ln:Nat):Nat->Nat:=λk=>k*ln / 2
abbrev PH (ln:Nat):Nat->Nat:=λk=>(k+1)*ln / 2
section
variable {S:Nat->Prop}{ρ:Ren}{w w':Zb}{gs:Array Zi}{sl:Option (Nat×Nat)}{t:YZ}{q:Nat->Nat}{Shun:Loc->Prop}{gc gc':Array Zf}{la cR rO:Option Addr}{ln lc sn sc:Nat}{sv:Zf}{cs':List ZM}{rows A7:Nat->Zf}{fit:Nat->Bool}
def j4 (X:Ctx Zc S (AU (Zq Zc 104 #[.agg gc',.slice cR ln lc,.slice rO sn sc] .normal) cs') w' gs t q Shun)(K:∀c,S c↔∃b,ρ b=some c)(P:ρ.ok=ND)(U:WR ρ w w')
 (NM:BS ρ gc gc') (R:VR ρ (.slice la ln lc) (.slice cR ln lc)) (y:VR ρ sv (.slice rO sn sc)) (H:ME w w gc la ln lc sv rows fit) (hR:∀i,i<ln->VR ρ (rows i) (A7 i)):
  ∃N F W w₁ E D,ZaE Zc N (Yj gs w' sl) t=(.next (Yj F w₁ E),D)/\Laid w' W w' gc' (.slice cR ln lc) (.slice rO sn sc)/\
   Joined Zc (w'+3) (w'+5) (Wl (TA ln) (PH ln) A7 fit ρ) Shun (gT w' (.agg gc') (.slice cR ln lc) (.slice rO sn sc) cs') (Sx S w') (Sx S w') W F w₁ D:=by
 have s:∀b,S b->b<w'.heap.size:=λb g=>(X.held b g).1;have B:∀p:Addr,w'.heap.size<=p.block->¬Shun (.cell p):=λp hp r=>by
  obtain⟨a,e,h⟩:=X.XU _ r;cases e;omega
 have J:Lone Zc Shun (w'+6) (AU (Zq Zc 104 #[.agg gc',.slice cR ln lc,.slice rO sn sc] .normal) cs') gs t q:=⟨X.main,X.old,X.past.mono o!⟩;rw[oV]at J;obtain⟨N,F,dp,W,E,D,GJ,V,⟨rfl,d,rfl⟩,C⟩:=Cf (sl:=sl) (λ_ _ _ h=>h) J (oG (Shun:=Shun) B);have j:=(tP w' gc' (.slice cR ln lc) (.slice rO sn sc)).at d;generalize (W1 w' gc' (.slice cR ln lc) (.slice rO sn sc)).at d=W at*;have D':=j.size;generalize hn:w'=n at*;have m:∀b,Sx S n b->b<n+6:=by
  rintro b (h|h|h|h|h)
  .have:=s b h;omega
  all_goals omega
 have T:=aO (S:=Sx S n) (L:=Sx S n) (n:=n) (gv:=.agg gc') (lv:=.slice cR ln lc) (sv:=.slice rO sn sc) (cs:=cs') (Pay:=Wl (TA ln) (PH ln) A7 fit ρ) W ⟨0,0,j.wg⟩ o! (λh=>by
   rcases h with h|h|h|h|h
   .have:=s _ h;omega
   all_goals omega) (λb g=>by have:=m b g;omega) (λb g=>by have:=m b g;omega)
  (λk pb S' O hk v Ts A z o KW G Y=>by
   have x:∀b,Sx S n b->O.heap[b]?=W.heap[b]? :=o.same;obtain⟨wl,UW,h1,M⟩:=aS (k:=k) (n:=n) (pb:=pb) (w₀:=O) P U NM R y o! (λb ⟨a,g⟩=>by
     have Q:S b:=(K b).2 ⟨a,g⟩;rw[x b (.inl Q),j.old b (s b Q)]) (o.os.trans j.os) ⟨(0,0),(x n (.inr (.inl rfl))).trans j.g,Zj _⟩ ⟨(0,0),(x _ (.inr (.inr (.inl rfl)))).trans j.l,Zj _⟩ ⟨(0,0),(x _ (.inr (.inr (.inr (.inl rfl))))).trans j.s,Zj _⟩ G o!
   refine Wm (T₀:=S') h1 M hk H hR (λf I=>by rw[P]at I;exact I) (λb c Kf=>?_) z G ?_ (v _ (.inr (.inr (.inr (.inr rfl))))) (λh=>?_) ?_ KW
   .rcases M.only b c Kf with h|rfl|rfl|rfl|rfl
    .exact v _ (.inl ((K c).2 ⟨b,h⟩))
    .exact v _ (.inr (.inr (.inl rfl)))
    .exact Ts
    .exact v _ (.inr (.inl rfl))
    exact v _ (.inr (.inr (.inr (.inl rfl))))
   .refine(zn (a:=⟨n+4,0,none⟩) (x _ (.inr (.inr (.inr (.inr rfl)))))).trans ?_
    unfold zy;rw[j.chb];rfl
   .rcases A _ h with h|h
    .rcases h with h|h|h|h|h
     .have:=s _ h;omega
     all_goals omega
    omega
   have:=o.size;omega)
 obtain⟨Mt,I8,u,DQ,Ic,FC,hJ⟩:=dB (sl:=E) (q:=GJ) (Shun:=Shun) tQ Sk TX aN C.main C.old (by rw[D'.1];exact C.past) (λb g=>⟨by have:=m b g;omega,λa ha r=>by
   rcases g with g|g
   .exact(X.held b g).2 a ha r
   .exact B a o! r⟩) (λl Z=>by obtain⟨a,e,h⟩:=X.XU l Z;exact⟨a,e,o!⟩) (λh=>by
   rcases h with h|h|h|h|h
   .have:=s _ h;omega
   all_goals omega) (λh=>by
   rcases h with h|h|h|h|h
   .have:=s _ h;omega
   all_goals omega) o! j.wg j.ch (λl ⟨a,e,h⟩ r=>by subst e;exact B a o! r) (λb g=>by have:=m b g;omega) T
 exact⟨N+Mt,I8,W,u,DQ,Ic,by rw[Go.FA.runNT_add _ _ _ _ _ _ V];exact FC,j,hJ⟩
end
end Go.Proofs.Fit
namespace Go.Proofs.Fit
open Go Go.Conc Go.FA Go.Pair Go.RowKit
def g8 (wl:Zb)(xs:List Zf)(v:Zf)(w:Zb):Prop:=
 (∀b,b<wl.heap.size->w.heap[b]?=wl.heap[b]?)/\(xs.length=0->v=.slice none 0 0)/\(0<xs.length->∃r c,v=.slice (some ⟨r,0,none⟩) xs.length c/\wl.heap.size<=r/\c<=maxLen/\Room w r c xs)
variable {W w₀ w w' wl w₁:Zb}
def g8.blind {xs:List Zf}:C_ (g8 wl xs):=λ_ _ _ h=>h
variable {fit:Nat->Bool}
variable {c1 pb k Wg B n r K c b ln lc lo hi:Nat}
variable {Kr Kl gv lv sv x9 MH Lx Ly K0 K1 Qj Q_ cJ TY Tt Tu Tv Tx Ty Tz v u x:Zf}
def Wo {rows:Nat->Zf}(h:u∈CX rows fit lo hi):∃i,lo<=i/\i<hi/\u=rows i:=by
 obtain⟨j,a⟩:=List.getElem?_of_mem h;obtain⟨i,d,c,b,_⟩:=NT a;exact⟨i,d,c,b⟩
section
variable {ρ:Ren}{w w' w₁ w₂:Zb}{n K ln:Nat}{rows A7:Nat->Zf}{fit:Nat->Bool}{S T0 T1:Nat->Prop}{A0 A1:Option Addr}{v0 v1:Zf}{n0 n1 c0 c1 sz:Nat}
def Sw (ρ d a:Ren)(K:Nat):Nat->Prop:=λc=>(∃b,ρ b=some c)\/(∃b,d b=some c)\/(∃b,a b=some c)\/c=K
def dP (Jw:ρ.ok=ND)(hw:WR ρ w w')(UO:ln<=1000000)(Ci:∀i,i<ln->∃a n c,rows i=.slice a n c/\(0<c\/a=none))(N:∀i,i<ln->VR ρ (rows i) (A7 i))
 (Qu:∀b c,ρ b=some c->w₂.heap[c]?=w'.heap[c]?) (B:w₂.heap[K]?=some (.cells #[v0,v1] 210 (0,0)))
 (P0:Wl (TA ln) (PH ln) A7 fit ρ 0 T0 (.agg #[.int .i64 0,v0]) w₁) (aW:∀b,T0 b->w₂.heap[b]?=w₁.heap[b]?) (P1:Wl (TA ln) (PH ln) A7 fit ρ 1 T1 (.agg #[.int .i64 1,v1]) w₁) (Kd:∀b,T1 b->w₂.heap[b]?=w₁.heap[b]?) {c':ZM} {cs':List ZM}:
  ∃D:Nat->Prop,(∀b c,ρ b=some c->D c)/\(∀c,D c->c=K\/(∃b,ρ b=some c)\/T0 c\/T1 c)/\
   Xe Zc true D (λS g w=>∃v',g=AU (c'.finish v') cs'/\((CX A7 fit 0 ln).length=0->v'=.slice none 0 0)/\
    (0<(CX A7 fit 0 ln).length->∃r k cs f,v'=.slice (some ⟨r,0,none⟩) (CX A7 fit 0 ln).length k/\(CX A7 fit 0 ln).length<=k/\w₂.heap.size<=r/\k<=maxLen/\S r/\w.heap[r]?=some (.cells cs 22 f)/\f.2<=f.1/\cs=(CX A7 fit 0 ln).toArray++Yu (k - (CX A7 fit 0 ln).length) TW)) D
    (AU (Zq Zc 159 #[.slice K 2 2] .normal) (c'::cs')) w₂:=by
 obtain⟨F,bv,a0,A0,c0,e0,k0,ai,s0,i0,V0,C0⟩:=P0;obtain⟨E,wY,a1,A1,c1,e1,k1,Z,s1,i1,V1,C1⟩:=P1;have f0:v0=.slice A0 (CX A7 fit (TA ln 0) (PH ln 0)).length c0:=by
  have:=congrArg ZbD (Value.agg.inj e0);exact(zL (zL this).2).1
 have f1:v1=.slice A1 (CX A7 fit (TA ln 1) (PH ln 1)).length c1:=by
  have:=congrArg ZbD (Value.agg.inj e1);exact(zL (zL this).2).1
 have hl:Sw ρ F E K okW.low:=.inl ⟨_,by have:=ρ.base;rw[Jw]at this;exact this⟩
 let p:=Ren.VQ (Sw ρ F E K) okW (Bh Zc okW BU false) (λ_=>false) hl
 have W:ρ.Gi p:=OO (λb c d=>.inl ⟨b,d⟩) (λf s=>by rw[Jw]at s;exact s);have Q:F.Gi p:=OO (λb c d=>.inr (.inl ⟨b,d⟩)) (λf s=>by rw[k0]at s;exact s);have P:E.Gi p:=OO (λb c d=>.inr (.inr (.inl ⟨b,d⟩))) (λf s=>by rw[k1]at s;exact s);have xd:VR p v0 v0:=by rw[f0];exact V0.Mv Q
 have xe:VR p v1 v1:=by rw[f1];exact V1.Mv P
 have oW:∀i,i<ln->VR p (A7 i) (A7 i):=λi hi=>by
  obtain⟨a,m,c,h,_⟩:=Ci i hi;have:=N i hi;rw[h]at this;exact this.Mv W
 have V:∀i,i<ln->(A7 i).oneCell'=true:=λi hi=>by
  obtain⟨a,m,c,h,_⟩:=Ci i hi;have:=N i hi;rw[h]at this;obtain⟨A,C,_⟩:=VR.Gp this;rw[C];rfl
 have L:∀c,Sw ρ F E K c->∃o,w₂.heap[c]?=some o/\OR p (Dm p o) o:=by
  rintro c (⟨b,d⟩|⟨b,d⟩|⟨b,d⟩|rfl)
  .obtain⟨o,M,O,H,G⟩:=hw.obj b c d
   exact⟨M,(Qu b c d).trans H,G.Gi W⟩
  .obtain⟨o,M,O,H,G⟩:=ai.obj b c d
   exact⟨M,(aW c (s0 b c d)).trans H,G.Gi Q⟩
  .obtain⟨o,M,O,H,G⟩:=Z.obj b c d
   exact⟨M,(Kd c (s1 b c d)).trans H,G.Gi P⟩
  refine⟨_,B,?_⟩;refine .cells 210 ⟨i!,λi v y q l=>?_⟩ (Qz _ _);rw[zF,l]at q;cases q;refine OM ?_
  match i,l with
  |0,l=>cases l;exact⟨_,xd⟩
  |1,l=>cases l;exact⟨_,xe⟩
 have ap:WR p (snap p w₂) w₂:=nW L;have b8:K<w₂:=(Za.1 B).1;have mg:∀c,Sw ρ F E K c->c<w₂.heap.size:=λc Y=>by
  obtain⟨o,h,_⟩:=L c Y;exact(Za.1 h).1
 have q0:(snap p w₂).cell? K=some (.slice A0 (CX A7 fit (TA ln 0) (PH ln 0)).length c0):=by
  rw[<-f0];exact I9 (by unfold zy;rw[B];rfl) xd
 have q1:(snap p w₂).cell? ⟨K,1,none⟩=some (.slice A1 (CX A7 fit (TA ln 1) (PH ln 1)).length c1):=by
  rw[<-f1];exact I9 (by unfold zy;rw[B];rfl) xe
 have r0:KZ (snap p w₂) A0 (CX A7 fit (TA ln 0) (PH ln 0)):=λj u z=>by
  obtain⟨ad,q,⟨b,l⟩,T⟩:=C0 j u z;obtain⟨i,i1,i2,rfl,_⟩:=NT z;have hi:i<ln:=by simp only[PH]at i2;omega
  refine⟨ad,q,by rw[Lr];exact mg _ (.inr (.inl ⟨b,l⟩)),I9 ?_ (oW i hi)⟩;rw[<-T];exact zn (by rw[CF];exact aW _ (s0 b _ l))
 have r1:KZ (snap p w₂) A1 (CX A7 fit (TA ln 1) (PH ln 1)):=λj u z=>by
  obtain⟨ad,q,⟨b,l⟩,T⟩:=C1 j u z;obtain⟨i,i1,i2,rfl,_⟩:=NT z;have hi:i<ln:=by simp only[PH]at i2;omega
  refine⟨ad,q,by rw[Lr];exact mg _ (.inr (.inr (.inl ⟨b,l⟩))),I9 ?_ (oW i hi)⟩;rw[<-T];exact zn (by rw[CF];exact Kd _ (s1 b _ l))
 have IP:CX A7 fit (TA ln 0) (PH ln 0)++CX A7 fit (TA ln 1) (PH ln 1)=CX A7 fit 0 ln:=by
  have e1:TA ln 0=0:=by simp[TA]
  have e2:PH ln 0=ln / 2:=by simp[PH]
  have e3:TA ln 1=ln / 2:=by simp[TA]
  have e4:PH ln 1=ln:=by simp only[PH];omega
  rw[e1,e2,e3,e4];exact dH (Zp _) o!
 have Mc:=λt=>als (wl:=tp (snap p w₂) t) (K:=K) q0 q1 r0 r1 (λu z=>by obtain⟨i,_,h,rfl⟩:=Wo z;exact V i (by simp only[PH]at h;omega)) (λu z=>by obtain⟨i,_,h,rfl⟩:=Wo z;exact V i (by simp only[PH]at h;omega)) (by
  have q:=Dh (rows:=A7) (fit:=fit) (lo:=TA ln 0) (hi:=PH ln 0);have l:=Dh (rows:=A7) (fit:=fit) (lo:=TA ln 1) (hi:=PH ln 1);simp only[TA,PH]at q l;show(CX A7 fit (TA ln 0) (PH ln 0)).length+(CX A7 fit (TA ln 1) (PH ln 1)).length<=1000000;simp only[TA,PH];omega)
 rw[IP]at Mc;refine⟨Sw ρ F E K,λb c d=>.inl ⟨b,d⟩,?_,?_⟩
 .rintro c (h|⟨b,h⟩|⟨b,h⟩|h)
  .exact .inr (.inl h)
  .exact .inr (.inr (.inl (s0 b c h)))
  .exact .inr (.inr (.inr (s1 b c h)))
  exact .inl h
 have R:(λc=>∃b,p b=some c)=Sw ρ F E K:=by
  funext c
  apply propext;constructor
  .rintro⟨b,d⟩
   obtain⟨h,rfl⟩:=Gj.1 d;exact h
  exact λh=>⟨c,Gj.2 ⟨h,rfl⟩⟩
 have N:=nX AP.twins Nz (ρ:=p) (AP.afE rfl rfl rfl) rfl (f:=159) (show aF 159=true by decide) (a:= #[.slice K 2 2]) (a':= #[.slice K 2 2]) (Bz.single (.slice _ _ ⟨Gj.2 ⟨.inr (.inr (.inr rfl)),rfl⟩,rfl,rfl⟩)) ap (c':=c') (cs':=cs') (Post:=g8 (snap p w₂) (CX A7 fit 0 ln)) g8.blind
  (λt=>(Mc t).mono λe w' h=>by
   obtain⟨q,l,T⟩:=h;rcases zQ (CX A7 fit 0 ln).length with hz|hp
   .rw[l hz]
    exact⟨λb d=>q.block b d,λ_=>rfl,λh=>absurd h o!⟩
   obtain⟨r,c,rfl,g1,g2,U⟩:=T hp;exact⟨λb d=>q.block b d,λh=>absurd h o!,λ_=>⟨r,c,rfl,g1,g2,U⟩⟩)
  (λv w' h b o _ ho=>by rw[h.1 b (Za.1 ho).1];exact ho)
  (λb c d=>by
   obtain⟨h,rfl⟩:=Gj.1 d;obtain⟨o,q,l⟩:=L b h;exact UE q l) (S:=Sw ρ F E K) (λc=>by rw[<-R]) (m:=true)
 rw[R]at N;refine N.imp λS g DZ h=>?_;obtain⟨σ,GR,v,v',rfl,⟨lO,VK,am⟩,hv,an,rG,bi,hS⟩:=h;refine⟨v',rfl,λhz=>?_,λhp=>?_⟩
 .rw[VK hz]at hv
  exact VR.acr hv
 obtain⟨r0,k,rfl,g1,g2,U⟩:=am hp;obtain⟨A,rfl,C⟩:=VR.Gp hv;rcases C with C|⟨Vo,_⟩
 rotate_left
 .omega
 cases A with
 |none=>exact C.elim
 |some A=>
 obtain⟨X,aT,xa⟩:=C;obtain⟨ab,ao,aq⟩:=A;dsimp only at X aT xa;subst aT xa;rw[Lr]at g1;have DU:w₂<=ab:=by
  rcases rG _ _ X with h|⟨_,h⟩
  .obtain⟨hd,e⟩:=Gj.1 h
   have:=mg _ hd;omega
  exact h
 obtain⟨o,M,O,H,G⟩:=bi.obj _ _ X;rw[U.2]at O;cases O;cases G with
 | @cells _ cs e f f' Y s=>
 refine⟨ab,k,cs,f',rfl,U.1,DU,g2,(hS ab).2 ⟨r0,X⟩,H,?_,?_⟩
 .rcases s with rfl|s|⟨q,l⟩
  .exact Zj _
  .exact s
  dsimp only at l;omega
 refine Array.ext Y.1.symm λi q l=>?_;have I:=Y.2 i _ _ (Zx l) (Zx q);have aX:i<k:=by
  have:=U.1;simp at l;omega
 rw[Array.getElem_append]at I⊢;split at I
 .next Az=>
  rw[dif_pos Az];have hm:(CX A7 fit 0 ln).toArray[i] ∈CX A7 fit 0 ln:=i!
  obtain⟨j,_,hj,hr⟩:=Wo hm;rw[hr]at I⊢;have DX:=(oW j hj).mono an;obtain⟨a,m,c,h,h0⟩:=Ci j hj;have bV:=N;have J:= ‹∀i,i<ln->VR ρ (rows i) (A7 i)› j hj;rw[h]at J;obtain⟨A,C,_⟩:=VR.Gp J;have be:0<c\/A=none:=h0.imp (λx=>x) λe=>by
   subst e;have:=VR.acr J;rw[C]at this;cases this
   rfl
  rw[C]at I DX⊢;exact VR.OL I DX be
 next Az=>
 rw[dif_neg Az];rw[Array.getElem_replicate]at I⊢;exact VR.OL I (.slice _ _ trivial) (.inr rfl)
end
def Cw.same (h:Cw w b)(e:w₁.heap[b]?=w.heap[b]?):Cw w₁ b:=by
 obtain⟨t,n,f,d⟩:=h;refine⟨t,n,?_,λa c=>?_⟩
 .unfold Yn at*;rw[e];exact f
 have:=d a c;unfold Yo at*;rw[e];exact this
def KI.same {J:Nat->Obj->Prop}(h:KI J w b)(e:w₁.heap[b]?=w.heap[b]?):KI J w₁ b:=
 h.imp (λh=>Cw.same h e) λ⟨o,c,a⟩=>⟨o,c,e.trans a⟩
def Sy (P' P:Zo)(B:H9)(J:Nat->Obj->Prop)(ρ₀:Ren)(n₀ n₀':Nat)(Lk S:Nat->Prop)(g:Zi)(w:Zb)(w':Zb)(gs:Array Zi)(sl:Option (Nat×Nat))(t:YZ):Prop:=
  ∃(N:Nat) (e:Array Zi) (k:Option (Nat×Nat)) (d:YZ) (j:Nat->Nat) (b:Loc->Prop) (c:Nat->Prop) (i:Ren) (h:Zi) (w₁:Zb) (f:Zi) (a:Zb),
   ZaE P N (Yj gs w' sl) t=(.next (Yj e a k),d)/\CI P' B true g w h w₁/\Nr P' P B J ρ₀ n₀ n₀' Lk c i h w₁ f a/\Ctx P c f a e d j b/\Ms S Lk w' a c
section
variable {B:H9}{fn:Func}{Post:Zf->Zb->Prop}{J:Nat->Obj->Prop}{ρ₀ ρ:Ren}{n₀ n₀':Nat}{Lk S:Nat->Prop}{f f':ZM}{cs cs':List ZM}{a a':Array Zf}{w w':Zb}{gs:Array Zi}{sl:Option (Nat×Nat)}{t:YZ}{q:Nat->Nat}{Shun:Loc->Prop}
variable {g:Zi}
variable {σ:Ren}
def ML {N:Nat}{q:Array Zi}{u:Option (Nat×Nat)}{n:YZ}{r:Nat->Nat}{Shun₁:Loc->Prop}{g':Zi}{w₁':Zb}{v':Zf}(H:Nr Lp Zc B J ρ₀ n₀ n₀' Lk S ρ g w g' w')(A:Gh Lp Zc B ρ (f::cs) (f'::cs'))(L:f.todo≠ [])
 (y:ZaE Zc N (Yj gs w' sl) t=(.next (Yj q w₁' u),n)) (hp:CI Lp B true g w (AU (f.finish v) cs) w₁) (d:∀b,b<w.heap.size->w₁.heap[b]?=w.heap[b]?) (E:w₁.os=w.os) (I:w<=w₁.heap.size)
 (X:Lone Zc Shun₁ w₁' (AU (f'.finish v') cs') q n r) (s:∀b,b<w'.heap.size->w₁'.heap[b]?=w'.heap[b]?) (m:w'<=w₁'.heap.size) (e:w₁'.os=w'.os/\w₁'.tape=w'.tape/\w₁'.output=w'.output)
 (G:GZ Shun₁ w₁') (a:ρ.le σ) (Bp:∀b c,σ b=some c->ρ b=some c\/(w<=b/\w'<=c/\c<w₁'.heap.size/\(∀p:Addr,p.block=c->¬Shun₁ (.cell p))/\∃o i,w₁.heap[b]?=some o/\w₁'.heap[c]?=some i/\OR σ o i))
 (D:∀b,S b->∀p:Addr,p.block=b->¬Shun₁ (.cell p)) (x:VR σ v v'):
  Sy Lp Zc B J ρ₀ n₀ n₀' Lk S g w w' gs sl t:=by
 have k:∀b c,ρ b=some c->b<w.heap.size/\c<w':=λb c h=>H.world.lt h;refine⟨N,q,u,n,r,Shun₁,λc=>∃b,σ b=some c,σ,AU (f.finish v) cs,w₁,AU (f'.finish v') cs',w₁',y,hp,?_,?_,?_⟩
 .refine⟨H.env.mono a,Ren.le_trans H.le a,λb c d=>?_,⟨Zr H.size.1 I,Zr H.size.2 m⟩,.inl ⟨_,_,_,_,rfl,rfl,(A.mono a).top λK h=>h.finish x L⟩,⟨λb c F=>?_,?_⟩,λc z=>?_,λc=>Iff.rfl⟩
  .rcases Bp b c d with h|h
   .exact H.fresh b c h
   exact .inr ⟨Zr H.size.1 h.1,Zr H.size.2 h.2.1⟩
  .rcases Bp b c F with h|h
   .obtain⟨o,i,j,l,C⟩:=H.world.obj b c h
    exact⟨o,i,(d b (k b c h).1).trans j,(s c (k b c h).2).trans l,C.mono a⟩
   exact h.2.2.2.2
  .rw[e.1,E];exact H.world.os
  obtain⟨b,j,l⟩:=H.lock c z;exact⟨b,a.1 _ _ j,KI.same l (d b (k b c j).1)⟩
 .refine⟨X.main,X.old,X.past,λc ⟨b,d⟩=>?_,G⟩
  rcases Bp b c d with h|h
  .exact⟨Zl (k b c h).2 m,D c ((H.holds c).2 ⟨b,h⟩)⟩
  exact⟨h.2.2.1,h.2.2.2.1⟩
 refine⟨m,λb d _=>s b d,e.1,e.2.1,e.2.2,λc ⟨b,d⟩=>?_⟩;rcases Bp b c d with h|h
 .exact .inl ((H.holds c).2 ⟨b,h⟩)
 exact .inr h.2.1
def tT (hl:B.lcs=[C5 Lp])(Kg:B.K.seg=false)(oX:C_ Post)(ha:a.size=3)(xf:BS ρ a a')(Jw:ρ.ok=ND)(hS:Gh Lp Zc B ρ (f::cs) (f'::cs'))(BL:f.todo≠ [])
 (hM:Cv Lp B true (Ez Lp B fn Post PX) (AU (Zq Lp 104 a .normal) (f::cs)) w)
 (H:Nr Lp Zc B J ρ₀ n₀ n₀' Lk S ρ (AU (Zq Lp 104 a .normal) (f::cs)) w (AU (Zq Zc 104 a' .normal) (f'::cs')) w') (X:Ctx Zc S (AU (Zq Zc 104 a' .normal) (f'::cs')) w' gs t q Shun):
  Sy Lp Zc B J ρ₀ n₀ n₀' Lk S (AU (Zq Lp 104 a .normal) (f::cs)) w w' gs sl t:=by
 obtain⟨gc,la,ln,lc,sv,rows,fit,rfl,F⟩:=aau hl Kg oX H.env hS ⟨w',H.world⟩ ha hM;obtain⟨y0,y1,y2,rfl⟩:=afW a' (xf.1.symm.trans rfl);have v0:VR ρ (.agg gc) y0:=xf.2 0 _ _ rfl rfl;have v1:VR ρ (.slice la ln lc) y1:=xf.2 1 _ _ rfl rfl;have v2:VR ρ sv y2:=xf.2 2 _ _ rfl rfl;obtain⟨C,rfl,NM⟩:∃C,y0=.agg C/\BS ρ gc C:=by
  cases v0 with
  |agg z o=>exact⟨_,rfl,z,o⟩
 obtain⟨cR,rfl,wa⟩:=VR.Gp v1;obtain⟨sa,sn,sc,fy⟩:=F.oF;have I:=v2;rw[fy]at I;obtain⟨rO,rfl,_⟩:=VR.Gp I;clear I;have Sz:∀i,∃x,i<ln->VR ρ (rows i) x:=λi=>by
  by_cases hi:i<ln
  .obtain⟨ad,rfl,o,h3⟩:=F.there i hi
   rcases wa with wa|⟨hz,_⟩
   rotate_left
   .omega
   cases cR with
   |none=>exact wa.elim
   |some i9=>
    obtain⟨x,_,hx⟩:=WR.wX H.world (AR.add wa i) h3;exact⟨x,λ_=>hx⟩
  exact⟨Ze,λh=>absurd h hi⟩
 obtain⟨A7,hR⟩:=Classical.axiomOfChoice Sz;clear Sz;obtain⟨fK,CQ,W,w₁,CU,Ea,gZ,Q,s⟩:=j4 (sl:=sl) X H.holds Jw H.world NM v1 v2 F hR;obtain⟨b,S',h0,⟨pb,rfl⟩,tj⟩:=s.main;obtain⟨GJ,U⟩:=s.old;obtain⟨E,ii,tm,jK,lS,jE⟩:=s.chan;have D':=Q.size;have iX:=s.size;generalize hn:w'.heap.size=n at*;have E8:∀b,S b->b<n:=λb d=>by rw[<-hn];exact(X.held b d).1
 have Z:∀p:Addr,n<=p.block->¬Shun (.cell p):=λp y g=>by
  obtain⟨a,e,h⟩:=X.XU _ g;cases e;omega
 have g9:∀b,b<n->w₁.heap[b]?=w'.heap[b]? :=λb d=>by
  rw[s.still b (by omega) (by omega) (by omega) ?_,Q.old b d];by_cases h:S b
  .exact .inr (.inl h)
  refine .inl λN=>?_;rcases N with N|N|N|N|N
  .exact h N
  all_goals omega
 obtain⟨T0,p0,aW⟩:=jE 0 (by omega);obtain⟨T1,p1,Kd⟩:=jE 1 (by omega);have R:∃A0 m0 c0,E 0=.agg #[.int .i64 0,.slice A0 m0 c0]:=by
  obtain⟨_,_,_,A,c,e,_⟩:=p0;exact⟨_,_,_,e⟩
 have O:∃A1 m1 c1,E 1=.agg #[.int .i64 1,.slice A1 m1 c1]:=by
  obtain⟨_,_,_,A,c,e,_⟩:=p1;exact⟨_,_,_,e⟩
 obtain⟨A0,m0,c0,R⟩:=R;obtain⟨A1,m1,c1,O⟩:=O;rw[R]at p0;rw[O]at p1;obtain⟨Mt,I8,w₂,DQ,Ic,TP,T,FC,K2,P,u⟩:=drain (sl:=CU) (B:=w₁.heap.size+3) ⟨h0,U,s.past.mono (by omega)⟩ jK R O lS (by
   unfold zy;rw[s.still (n+4) (by omega) (by omega) (by omega) (.inr (.inr (.inr (.inr (.inr rfl))))),Q.chb];rfl)
  (λp y g=>by
   rcases g with g|⟨a,e,h⟩
   .exact Z p (by omega) g
   cases e;omega) (Zj _)
 have ay:∀b,b<n->w₂.heap[b]?=w'.heap[b]? :=λb d=>(u.old b (by omega) (by omega)).trans (g9 b d);obtain⟨D,rR,mg,fJ⟩:=dP (w₂:=w₂) (K:=w₁.heap.size) (c':=aP T [1,2]) (cs':=f'::cs') Jw H.world F.small F.row hR (λb c d=>ay c (by rw[<-hn];exact(H.world.lt d).2)) u.kept
  p0 (λb d=>u.old b (aW b d).2.1 (aW b d).2.2.2) p1 (λb d=>u.old b (Kd b d).2.1 (Kd b d).2.2.2)
 have Jc:GZ (λl=>Shun l\/Mw (n+5) l) w₂.heap.size:=by
  rintro l (h|⟨a,rfl,h⟩)
  .obtain⟨a,e,h⟩:=X.XU l h
   exact⟨a,e,by have:=u.size;omega⟩
  exact⟨a,rfl,by have:=u.size;omega⟩
 have L:∀c,D c->c<w₁.heap.size+1/\c≠n+5/\(∀p:Addr,p.block=c->¬Shun (.cell p)):=λc hc=>by
  have P:∀T:Nat->Prop,(∀b,T b->(Sx S n b\/W.heap.size<=b)/\b<w₁.heap.size/\b≠n+5/\b≠n+3)->T c->c<w₁.heap.size+1/\c≠n+5/\(∀p:Addr,p.block=c->¬Shun (.cell p)):=λT P h=>by
   obtain⟨k1,k2,k3,_⟩:=P c h;refine⟨by omega,k3,λp y=>?_⟩;rcases k1 with(k1|k1)|k1
   .exact(X.held c k1).2 p y
   .exact Z p (by omega)
   exact Z p (by omega)
  rcases mg c hc with rfl|⟨b,d⟩|h|h
  .exact⟨by omega,by omega,λp y=>Z p (by omega)⟩
  .have:=(H.holds c).2 ⟨b,d⟩
   exact⟨by have:=E8 c this;omega,by have:=E8 c this;omega,(X.held c this).2⟩
  .exact P T0 aW h
  exact P T1 Kd h
 have GU:=u.size;obtain⟨jy,oU,iS,DZ,aU,nQ,jn,iv,I1,_,f9,⟨v',rfl,gR,RB⟩,f8,gt,i7,xh,SA⟩:=RY fJ _ w₂ I8 DQ Ic TP (Zj _) (D1.refl _ _) K2.main K2.old (by rw[GU.1];exact K2.past) (λb d=>⟨by have:=(L b d).1;omega,λp y g=>by
   rcases g with g|⟨a,e,h⟩
   .exact(L b d).2.2 p y g
   cases e;exact(L b d).2.1 (by omega)⟩) Jc
 have i6:=SA.size;have az:∀b,b<n->DZ.heap[b]?=w'.heap[b]? :=λb d=>by
  rw[SA.still b (by omega) ?_,ay b d];by_cases h:D b
  .exact .inr h
  exact .inl h
 obtain⟨y9,fw,fu,fm,fi,fd,ed,du,dl,ct,ck,ci,b9,b8,bV,bv,bi,be,ap,an,am,ai,rfl⟩:=P;obtain⟨gn,XW,i8,KU,XY,nS,sV,RZ,⟨rfl,gj,rfl⟩,aV⟩:=Cf (sl:=aU) (λ_ _ _ h=>h) (a:=G ((aP (TK n (.agg C) (.slice cR ln lc) (.slice rO sn sc) y9 fm fi fd ed du dl ct fw fu ck ci b9 b8 bV bv bi be ap an am ai) [1,2]).finish v') (f'::cs')) ⟨f9,f8,gt⟩ (oR (Shun:=λl=>Shun l\/Mw (n+5) l) (B:=DZ.heap.size) (W:=DZ));have By:ZaE Zc (fK+(Mt+(jy+gn))) (Yj gs w' sl) t=(.next (Yj XW (DZ.at gj) XY),nS):=by
  rw[Go.FA.runNT_add _ _ _ _ _ _ gZ,Go.FA.runNT_add _ _ _ _ _ _ FC,Go.FA.runNT_add _ _ _ _ _ _ I1];exact RZ
 have Xk:DZ.os=w'.os/\DZ.tape=w'.tape/\DZ.output=w'.output:=by
  refine⟨?_,?_,?_⟩
  .rw[SA.os,u.os,s.os,Q.os]
  .rw[SA.tape,u.tape,s.tape,Q.tape]
  rw[SA.output,u.output,s.output,Q.output]
 have g_:∀b,S b->∀p:Addr,p.block=b->¬(Shun (.cell p)\/Mw (n+5) (.cell p)):=λb d p y g=>by
  rcases g with g|⟨a,e,h⟩
  .exact(X.held b d).2 p y g
  cases e;have:=E8 b d;omega
 have m:=Q' rows A7 fit 0 ln;have Kb:B.lcs.length<(f::cs).length:=hS.deep;rcases zQ (CX A7 fit 0 ln).length with hz|Fy
 .obtain⟨v,wL,M,R,_,hP⟩:=gW hl oX Kb F hM (k:=(CX rows fit 0 ln).length) (Zj _) (by
   have z:=Dh (rows:=rows) (fit:=fit) (lo:=0) (hi:=ln);have o:=F.small;have:maxLen=9223372036854775807:=rfl;omega)
  rw[R (by omega)]at hP;rw[gR hz]at aV;exact ML (Shun₁:=λl=>Shun l\/Mw (n+5) l) H hS BL By hP M.block M.os M.size aV (λb d=>az b (by omega)) (by show w'.heap.size<=DZ.heap.size;omega) Xk xh (Ren.le_refl ρ) (λb c h=>.inl h) g_ (.slice 0 0 trivial)
 obtain⟨r',k,cs',fz,rfl,io,im,M8,ip,Y,yB,fI⟩:=RB Fy;obtain⟨v,wL,M,_,O,hP⟩:=gW hl oX Kb F hM (k:=k) (by omega) M8;obtain⟨r,rfl,Xg,Ox⟩:=O (by omega);have xj:ρ.P5 r r':=⟨λb d=>by have:=(H.world.lt d).2;omega,by have:=(H.world.lt ρ.base).1;omega,by have:=(H.world.lt ρ.base).2;omega⟩;have V:ρ.le (ρ.ext r r' xj):=⟨λb c h=>by
  have:=(H.world.lt h).1;show(if b=r then some r' else ρ b)=some c;rw[if_neg (by omega)];exact h,rfl,rfl,rfl⟩
 have Em:r'<DZ.heap.size:=(Za.1 Y).1;refine ML (Shun₁:=λl=>Shun l\/Mw (n+5) l) H hS BL By hP M.block M.os M.size aV (λb d=>az b (by omega)) (by show w'.heap.size<=DZ.heap.size;omega) Xk xh V (λb c h=>?_) g_ ?_
 .rcases Wk xj h with h|⟨rfl,rfl⟩
  .exact .inl h
  refine .inr ⟨Xg,by omega,Em,λp y g=>?_,_,_,Ox.2,Y,.cells 22 ?_ (.inr (.inl yB))⟩
  .rcases g with g|⟨a,e,h⟩
   .exact Z p (by omega) g
   cases e;omega
  rw[fI, <-m];refine⟨by simp[m],λi v x z o=>?_⟩;rw[Array.getElem?_append]at z o;have Sb:(CX rows fit 0 ln).toArray.size=(CX A7 fit 0 ln).toArray.size:=by simp[m]
  rw[Sb]at z;split at z
  .next Az=>
   rw[if_pos Az]at o;rw[ZG]at z o;obtain⟨j,_,hj,rfl,fH⟩:=NT z;rw[fH A7]at o;cases o;exact(hR j hj).mono V
  next Az=>
  rw[if_neg Az]at o;have e1:=(zY z);have e2:=(zY o);rw[Array.mem_replicate]at e1 e2;rw[e1.2,e2.2];exact .slice _ _ trivial
 rw[m];exact .slice _ _ ⟨if_pos rfl,rfl,rfl⟩
end
end Go.Proofs.Fit
