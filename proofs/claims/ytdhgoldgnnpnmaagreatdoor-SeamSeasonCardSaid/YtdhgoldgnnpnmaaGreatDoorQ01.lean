/- Part of a proof. -/
import Derived.Test.YtdhgoldgnnpnmaaGreatDoorQ00
import Derived.Conc.LoneCalls
set_option maxRecDepth 100000
set_option maxHeartbeats 6400000
noncomputable section
set_option linter.all false
open Array renaming getElem?_eq_some_iff->Za,getElem?_setIfInBounds_ne->Zk,mem_of_getElem?->zY,forIn_toList->Zaf,mem_append->ZaH,all_eq_true_iff_forall_mem->zS,getElem?_push_lt->Zd3,getElem?_eq_getElem->Zx,getElem?_map->zF
open Classical renaming choose->zo,choose_spec->zv
open Go renaming Program->Zo,Goroutine->Zi,World->Zb,Event->Z9,stepG->za,Trace->YZ,runNT->ZaE,Value->Zf,TypeId->Zs,Frame->ZM,PanicEntry->zk,FuncId->ZaQ,undef->Ze
open Go.Conc renaming crowd->Yj
open Go.Frame renaming raise->ZaV,enter->Zq
open Go.Goroutine renaming callers->ZaP
open Go.Instr renaming takeDeferred->Yw
open Go.Made renaming word->Zcp
open Go.Obj renaming cells->Zbi
open Go.Sem renaming runT_eq->zh,bind->Zb8,runT->ZI
open Go.World renaming shape?->Yn,frozen?->Yo,cell?->zy
open List renaming append_nil->ZaA,append_assoc->Zae,length_nil->zR,length_cons->zb,mem_cons_self->zC,mem_cons_of_mem->zm
open Nat renaming le_trans->Zr,lt_of_lt_of_le->Zl,le_refl->Zj
open Option renaming bind_eq_some_iff->ZX,map_eq_some_iff->zc
open Option.some renaming injEq->ZJ
namespace Go.FA
open Go Go.Conc
open Go.ConcN (sumTo upd sumTo_upd upd_ne upd_same)
inductive CI (P':Zo)(B:H9)(m:Bool):Zi->Zb->Zi->Zb->Prop
 |one {g:Zi} {w:Zb} {AH:Zi} {w₁:Zb} {es:Array Z9} (t:Tape) (hn:¬BQ B g) (h:za P' m g (tp w t)=.go AH w₁ es):CI P' B m g w AH w₁
 |cons {g:Zi} {w:Zb} {AH:Zi} {w₁:Zb} {Bs:Zi} {w₂:Zb} {es:Array Z9} (t:Tape) (hn:¬BQ B g) (h:za P' m g (tp w t)=.go AH w₁ es) (k:CI P' B m AH w₁ Bs w₂):CI P' B m g w Bs w₂
section
variable {P' P:Zo}{B:H9}{m:Bool}{Stop:Zi->Zb->Prop}{Lk:Nat->Prop}
variable {g Bs AH:Zi}
variable {w w₂ w₁ w':Zb}
def Cv.paths (KJ:∀g w t,Stop g w->¬BQ B g->RU P' m g (tp w t)){C:Zi->Zb->Prop}(hC:∀g w,Cv P' B m Stop g w->(∀Bs w₂,CI P' B m g w Bs w₂->C Bs w₂)->C g w)(h:Cv P' B m Stop g w):C g w:=by
 have key:C g w/\∀Bs w₂,CI P' B m g w Bs w₂->C Bs w₂:=by
  induction h with
  | @stop g w h=>
   have hp:∀Bs w₂,CI P' B m g w Bs w₂->C Bs w₂:=by
    intro Bs w₂ hp;cases hp with
    |one t hn hx=>exact absurd hx (KJ _ _ t h hn _ _ _)
    |cons t hn hx _=>exact absurd hx (KJ _ _ t h hn _ _ _)
   exact⟨hC _ _ (.stop h) hp,hp⟩
  | @step g w hn hr AH w₁ es h k ih=>
   have hp:∀Bs w₂,CI P' B m g w Bs w₂->C Bs w₂:=by
    intro Bs w₂ hp;cases hp with
    |one t _ hx=>
     rw[h t]at hx;cases hx;exact(ih t).1
    |cons t _ hx hk=>
     rw[h t]at hx;cases hx;exact(ih t).2 _ _ hk
   exact⟨hC _ _ (.step hn hr AH w₁ es h k) hp,hp⟩
 exact key.1
def Cv.path (KJ:∀g w t,Stop g w->¬BQ B g->RU P' m g (tp w t))(h:Cv P' B m Stop g w)(hp:CI P' B m g w Bs w₂):Cv P' B m Stop Bs w₂:=by
 have one:∀ {g:Zi} {w:Zb} {AH:Zi} {w₁:Zb} {es:Array Z9} (t:Tape),Cv P' B m Stop g w->¬BQ B g->za P' m g (tp w t)=.go AH w₁ es->Cv P' B m Stop AH w₁:=by
  intro g w AH w₁ es t h hn hs;cases h with
  |stop h=>exact absurd hs (KJ _ _ t h hn _ _ _)
  |step hn _ AH w₁ es h k=>
   rw[h t]at hs;cases hs;exact k t
 induction hp with
 |one t hn hs=>exact one t h hn hs
 |cons t hn hs _ ih=>exact ih (one t h hn hs)
variable {S D:Nat->Prop}
def Ms.trans {FO sT:Nat->Prop}(h:Ms S Lk w w₁ FO)(k:Ms FO Lk w₁ w₂ sT):Ms S Lk w w₂ sT:=by
 refine⟨Zr h.size k.size,fun b hb hx=>?_,k.os.trans h.os,k.tape.trans h.tape,k.output.trans h.output,fun b hb=>?_⟩
 .rw[k.still b (Zl hb h.size) (hx.imp (fun hn x=>(h.more b x).elim hn (fun y=>by omega)) id)]
  exact h.still b hb hx
 rcases k.more b hb with x|x
 .exact h.more b x
 exact .inr (Zr h.size x)
structure Ctx (P:Zo)(S:Nat->Prop)(g':Zi)(w':Zb)(gs:Array Zi)(t:YZ)(q:Nat->Nat)(Shun:Loc->Prop):Prop where
 main:gs[0]?=some g'
 old:Leavers P t gs q
 past:Past Shun w'.heap.size t
 held:G0 Shun S w'.heap.size
 XU:GZ Shun w'.heap.size
def nO (P' P:Zo)(B:H9)(J:Nat->Obj->Prop)(m:Bool)(Stop:Zi->Zb->Prop)(ρ₀:Ren)(n₀ n₀':Nat)(Lk:Nat->Prop):Prop:=
 ∀(S:Nat->Prop) (ρ:Ren) (g:Zi) (w:Zb) (g':Zi) (w':Zb) (gs:Array Zi) (sl:Option (Nat×Nat)) (t:YZ) (q:Nat->Nat) (Shun:Loc->Prop),
  gd P' P B ρ g g'->Cv P' B m Stop g w->Nr P' P B J ρ₀ n₀ n₀' Lk S ρ g w g' w'->Ctx P S g' w' gs t q Shun->
  ∃(N:Nat) (CQ:Array Zi) (CU:Option (Nat×Nat)) (Ea:YZ) (GJ:Nat->Nat) (Shun₁:Loc->Prop) (FO:Nat->Prop) (σ:Ren) (AH:Zi) (w₁:Zb) (C9:Zi) (w₁':Zb),
   ZaE P N (Yj gs w' sl) t=(.next (Yj CQ w₁' CU),Ea)/\CI P' B m g w AH w₁/\Nr P' P B J ρ₀ n₀ n₀' Lk FO σ AH w₁ C9 w₁'/\Ctx P FO C9 w₁' CQ Ea GJ Shun₁/\Ms S Lk w' w₁' FO
def runNT_add (N M:Nat)(x y:Machine)(t u:YZ)(h:ZaE P N x t=(.next y,u)):ZaE P (N+M) x t=ZaE P M y u:=by
 induction N generalizing x t with
 |zero=>simp only[ZaE]at h;cases h;simp
 |succ N ih=>
  rw[show N+1+M=(N+M)+1 by omega];simp only[ZaE]at h⊢;cases hs:stepT P x with
  |mk s ops=>
   rw[hs]at h;cases s with
   |next z=>exact ih _ _ h
   |ended o w=>cases h
variable {t:Tape}
def CI.Ds (h:CI P' B m g (tp w t) Bs w₂):CI P' B m g w Bs w₂:=by
 cases h with
 |one t' hn h=>exact .one t' hn h
 |cons t' hn h k=>exact .cons t' hn h k
def CI.trans (h:CI P' B m g w AH w₁)(k:CI P' B m AH w₁ Bs w₂):CI P' B m g w Bs w₂:=by
 induction h with
 |one t hn h=>exact .cons t hn h k
 |cons t hn h _ ih=>exact .cons t hn h (ih k)
variable {es:Array Z9}
def CI.snoc (h:CI P' B m g w AH w₁)(t:Tape)(hn:¬BQ B AH)(k:za P' m AH (tp w₁ t)=.go Bs w₂ es):CI P' B m g w Bs w₂:=h.trans (.one t hn k)
def Way (P' P:Zo)(B:H9)(J:Nat->Obj->Prop)(Stop:Zi->Zb->Prop)(ρ₀:Ren)(n₀ n₀':Nat)(Lk:Nat->Prop)(g:Zi)(w:Zb):Prop:=
  ∀(S:Nat->Prop) (ρ:Ren) (g':Zi) (w':Zb) (gs:Array Zi) (sl:Option (Nat×Nat)) (t:YZ) (q:Nat->Nat) (Shun:Loc->Prop),Nr P' P B J ρ₀ n₀ n₀' Lk S ρ g w g' w'->Ctx P S g' w' gs t q Shun->
   ∃(N:Nat) (CQ:Array Zi) (CU:Option (Nat×Nat)) (Ea:YZ) (GJ:Nat->Nat) (Shun₁:Loc->Prop) (FO:Nat->Prop) (C9:Zi) (w₁':Zb),
    ZaE P N (Yj gs w' sl) t=(.next (Yj CQ w₁' CU),Ea)/\vY P' P B J Stop ρ₀ n₀ n₀' Lk FO C9 w₁'/\Ctx P FO C9 w₁' CQ Ea GJ Shun₁/\Ms S Lk w' w₁' FO
def nP (T:Twins P' P)(hd:BP<=P.depth)(hB:B.LM)(K:Dg P' B m Stop)(KJ:∀g w t,Stop g w->¬BQ B g->RU P' m g (tp w t)){ρ₀:Ren}{n₀ n₀':Nat}{J:Nat->Obj->Prop}{D₀:Zi->Zb->Prop}(wb:∀g w t AH w₁ es,D₀ g w->¬BQ B g->za P' m g (tp w t)=.go AH w₁ es->D₀ AH w₁)(hJq:∀b o,J b o->Quiet o/\b<n₀)
 (hJ:∀g w,D₀ g w->n₀<=w.heap.size->Cv P' B m Stop g w->∀b o,J b o->w.heap[b]?=some o) (hX:∀σ g w,ρ₀.le σ->UB B σ g->¬Stop g w) (SP:nO P' P B J m Stop ρ₀ n₀ n₀' Lk) (hM:Cv P' B m Stop g w):
  D₀ g w->Way P' P B J Stop ρ₀ n₀ n₀' Lk g w:=by
 have path:∀ {g:Zi} {w:Zb} {Bs:Zi} {w₂:Zb},CI P' B m g w Bs w₂->D₀ g w->D₀ Bs w₂:=by
  intro g w Bs w₂ h
  induction h with
  |one t hn hs=>exact fun x=>wb _ _ t _ _ _ x hn hs
  |cons t hn hs _ ih=>exact fun x=>ih (wb _ _ t _ _ _ x hn hs)
 refine Cv.paths (C:=fun g w=>D₀ g w->Way P' P B J Stop ρ₀ n₀ n₀' Lk g w) KJ ?_ hM;intro g w hM hp RX S ρ g' w' gs sl t q Shun H X;have hR:=KL (m':=true) T hd hB K (D:=fun Bs w₂=>(Bs=g/\w₂=w)\/CI P' B m g w Bs w₂) (by
  rintro Bs w₂ t y8 DZ es (⟨rfl,rfl⟩|h) hn hs
  .exact .inr (.one t hn hs)
  exact .inr (h.snoc t hn hs)) hJq (fun Bs w₂ h=>hJ Bs w₂ (h.elim (fun e=>by rw[e.1,e.2];exact RX) fun h=>path h RX)) hX hM (.inl ⟨rfl,rfl⟩) S ρ g' w' H
 obtain⟨N,CQ,a',w₁,CU,Ea,GJ,FO,hr,_,h0,B_,hL,hP,hH,hSh,hDn⟩:=RY hR (sumTo gs.size q) w' gs sl t q (Zj _) (D1.refl _ _) X.main X.old X.past X.held X.XU;have aew:Ctx P FO a' w₁ CQ Ea GJ Shun:=⟨h0,hL,hP,hH,hSh⟩;rcases B_ with B_|⟨aex,Bs,w₂,Ic,Ik,Jv,akX⟩
 .exact⟨N,CQ,CU,Ea,GJ,Shun,FO,a',w₁,hr,B_,aew,hDn⟩
 obtain⟨Mt,I8,DQ,nQ,TP,sU,sT,σ,y8,DZ,aey,nH,FC,wc,akY,akZ,XV⟩:=SP FO aex Bs (tp w₂ Ic) a' w₁ CQ CU Ea GJ Shun Jv ((Ik.elim (fun⟨e1,e2⟩=>by rw[e1,e2];exact hM) (hM.path KJ)).Ds K.blind Ic) akX aew;have nR:CI P' B m g w y8 DZ:=by
  rcases Ik with⟨rfl,rfl⟩|h
  .exact wc.Ds
  exact h.trans wc.Ds
 obtain⟨jy,XW,XY,nS,sV,sW,al0,aez,aeA,RZ,y_,al1,aeB⟩:=hp y8 DZ nR (path nR RX) sT σ aey nH I8 DQ nQ TP sU akY akZ;refine⟨N+(Mt+jy),XW,XY,nS,sV,sW,al0,aez,aeA,?_,y_,al1,(hDn.trans XV).trans aeB⟩;rw[runNT_add _ _ _ _ _ _ hr,runNT_add _ _ _ _ _ _ FC];exact RZ
end
end Go.FA
namespace Go.FA
open Go Go.Conc
structure Cr (w w':Zb):Prop where
 size:w'.heap.size=w.heap.size
 same:∀(b:Nat) (c:Array Zf) (e:Zs) (f:Nat×Nat),w'.heap[b]?=some (Zbi c e f)↔w.heap[b]?=some (Zbi c e f)
def Cr.refl (w:Zb):Cr w w:=⟨rfl,fun _ _ _ _=>Iff.rfl⟩
def Cr.trans {a b c:Zb}(h:Cr a b)(k:Cr b c):Cr a c:=⟨k.size.trans h.size,fun x y z u=>(k.same x y z u).trans (h.same x y z u)⟩
structure R0 (P':Zo)(ρ:Ren)(fr:ZM):Prop where
 fn:∃f,P'.funcs[fr.fn]?=some f
 defers:∀d∈fr.defers,∃b b' a,ρ b=some b'/\d= {target:=.collected b,args:=a}
def DW (ρ:Ren)(w:Zb):Prop:=∀b b',ρ b=some b'->∀ds,w.heap[b]?=some (.deferred (some ds))->ds=[]
section
variable {P' P:Zo}{B:H9}{m:Bool}{Stop:Zi->Zb->Prop}{ρ:Ren}
variable {w w₂ w₁ w':Zb}
variable {b c n:Nat}
def Ns {ds:List Deferred}(h:w.heap[b]?=some (.deferred (some ds))):
  (Yw b).runT P' w #[]=(.ok ds {w with heap:=w.heap.setIfInBounds b (.deferred none)},#[⟨.obj b,false,false⟩,⟨.obj b,true,false⟩]):=by
 unfold Yw;simp[-zh,bind,Zb8,getObj,setObj,ZI,h,pure,Obj.isChan]
def OI (h:∀ds,w.heap[b]?≠some (.deferred (some ds))):∃x u es,(Yw b).runT P' w #[]=(.halt x u,es):=by
 unfold Yw;cases ho:w.heap[b]? with
 |none=>exact⟨_,_,_,by simp[-zh,bind,Zb8,getObj,ZI,ho];exact⟨⟨rfl,rfl⟩,rfl⟩⟩
 |some o=>
  cases o with
  |deferred d=>
   cases d with
   |some ds=>exact absurd ho (h ds)
   |none=>exact⟨_,_,_,by simp[-zh,bind,Zb8,getObj,ZI,ho,stuck];exact⟨⟨rfl,rfl⟩,rfl⟩⟩
  |_=>exact⟨_,_,_,by simp[-zh,bind,Zb8,getObj,ZI,ho,stuck];exact⟨⟨rfl,rfl⟩,rfl⟩⟩
variable {g Bs AH:Zi}
variable {es:Array Z9}
def Cv.one (KJ:∀g w t,Stop g w->¬BQ B g->RU P' m g (tp w t))(t:Tape)(h:Cv P' B m Stop g w)(hn:¬BQ B g)(hs:za P' m g (tp w t)=.go AH w₁ es):Cv P' B m Stop AH w₁:=
 h.path KJ (.one t hn hs)
def raise_mode (c:ZM)(x:List zk):∃y,(c.raise x).mode=.panicking (x++y)/\c.raise x= {c with mode:=.panicking (x++y)}:=by
 obtain⟨fn,tmps,todo,defers,mode,kind,ro⟩:=c;cases mode with
 |run=>exact⟨[],by simp[ZaV],by simp[ZaV]⟩
 |returning=>exact⟨[],by simp[ZaV],by simp[ZaV]⟩
 |panicking z=>exact⟨z,by simp[ZaV],by simp[ZaV]⟩
variable {fr:ZM}
variable {cs cs':List ZM}
def F_ {x:List zk}(h:fr.mode=.panicking x):¬BQ B (AU fr cs):=by
 rintro(⟨_,_,h1,_⟩|⟨_,_,h1,_⟩)<;>(have h2:fr.mode=_:=h1;rw[h]at h2;cases h2)
def XZ (K:Dg P' B m Stop)(KJ:∀g w t,Stop g w->¬BQ B g->RU P' m g (tp w t))(hl:B.lcs=[C5 P'])(lP:∀(fr:ZM) cs w x,fr.mode=.panicking x->cs≠ []->¬Stop (AU fr cs) w):∀(L:List ZM) (fr:ZM) (w:Zb) (x:List zk),fr.mode=.panicking x->R0 P' ρ fr->(∀c∈L,R0 P' ρ c)->DW ρ w->
  Cv P' B m Stop (AU fr (L++ [C5 P'])) w->∃w' y,Cr w w'/\Stop (AU ((C5 P').raise (x++y)) []) w':=by
 intro L
 induction L with
 |nil=>?_
 |cons c L ih=>?_
 all_goals
  intro fr;obtain⟨fn,tmps,todo,defers,mode,kind,ro⟩:=fr
  induction defers with
  |nil=>?_
  |cons d ds ihd=>?_
 case nil.nil=>
  intro w x hm hf _ _ hM;dsimp only at hm;subst hm;obtain⟨f,G9⟩:=hf.fn;have hs:∀u,za P' m (AU {fn:=fn,tmps:=tmps,todo:=todo,defers:=[],mode:=.panicking x,kind:=kind,roundOf:=ro} ([]++ [C5 P'])) u=.go (AU ((C5 P').raise x) []) u #[]:=fun u=>by
   rw[BG.2 (by intro h;cases h)];exact C4 rfl rfl G9
  have hM':=hM.one KJ w.tape (F_ rfl) (hs _);exact⟨w,[],Cr.refl w,by rw[ZaA];exact hM'.vX K (.inr ⟨_,_,_,hl,rfl⟩)⟩
 case cons.nil=>
  intro w x hm hf hL hD hM;dsimp only at hm;subst hm;obtain⟨f,G9⟩:=hf.fn;have hs:∀u,za P' m (AU {fn:=fn,tmps:=tmps,todo:=todo,defers:=[],mode:=.panicking x,kind:=kind,roundOf:=ro} ((c::L)++ [C5 P'])) u=.go (AU (c.raise x) (L++ [C5 P'])) u #[]:=fun u=>by
   rw[BG.2 (by intro h;cases h)];exact C4 rfl rfl G9
  have hM':=hM.one KJ w.tape (F_ rfl) (hs _);obtain⟨y,h1,h2⟩:=raise_mode c x;have hc:=hL c (by simp);obtain⟨w',z,h3,h4⟩:=ih (c.raise x) w (x++y) h1 (by rw[h2];exact⟨hc.fn,hc.defers⟩) (fun c' OJ=>hL c' (by simp[OJ])) hD hM';exact⟨w',y++z,h3,by rw[<-Zae];exact h4⟩
 all_goals
  intro w x hm hf hL hD hM;dsimp only at hm;subst hm;obtain⟨b,b',a,hb,rfl⟩:=hf.defers d (by simp);by_cases hds:∃l,w.heap[b]?=some (.deferred (some l))
  .obtain⟨l,Ka⟩:=hds
   obtain rfl:=hD b b' hb l Ka;refine(?_:∃w' y,Cr w w'/\Stop (AU ((C5 P').raise (x++y)) []) w');have By:=Ns (P':=P') Ka;have hM':=hM.one KJ w.tape (F_ rfl) (by
    rw[BG.2 (by intro h;cases h)];exact El rfl By)
   have aeE:b<w.heap.size:=(Za.1 Ka).1;have hcs:Cr w {w with heap:=w.heap.setIfInBounds b (.deferred none)}:=by
    refine⟨by simp,fun k c e f=>?_⟩;by_cases hk:b=k
    .subst hk
     rw[Ka];simp[aeE]
    simp[Zk hk]
   have hD':DW ρ {w with heap:=w.heap.setIfInBounds b (.deferred none)}:=by
    intro k k' hk l lQ;by_cases he:b=k
    .subst he
     simp[aeE]at lQ
    exact hD k k' hk l (by simpa[Zk he]using lQ)
   obtain⟨w',y,h3,h4⟩:=ihd {w with heap:=w.heap.setIfInBounds b (.deferred none)} x rfl ⟨hf.fn,fun d hd=>hf.defers d (by simp at hd⊢;exact .inr hd)⟩ hL hD' hM';exact⟨w',y,hcs.trans h3,h4⟩
  exfalso;obtain⟨e,u,es,By⟩:=OI (P':=P') (w:=w) (b:=b) (fun ds hx=>hds ⟨ds,hx⟩);cases hM with
  |stop h=>
   exact lP _ _ _ x rfl (by simp) h
  |step hn _ AH w₁ aqX h k=>
   obtain⟨o,u2,e3,he⟩:=DY (Q:=P') (m:=m) (fr:= {fn:=fn,tmps:=tmps,todo:=todo,defers:= {target:=.collected b,args:=a}::ds,mode:=.panicking x,kind:=kind,roundOf:=ro}) (cs:=_) rfl By;have:=h w.tape;rw[BG.2 (by intro h;cases h)]at this;exact absurd this (by rw[show tp w w.tape=w from rfl,he];intro h;cases h)
end
end Go.FA
namespace Go.FA
open Go
def Zv (v:Zf):Prop:=∀ρ:Ren,VR ρ v v
def dj {cs:Array Zf}(h:∀x∈cs,Zv x):Zv (.agg cs):=fun ρ=>.agg rfl fun i v v' hv iZ=>by
 rw[hv]at iZ;cases iZ;exact h v (zY hv) ρ
variable {x v:Zf}
def X9 (h:Zv v):∀x∈v.cells,Zv x:=by
 intro x hx ρ;have hr:=h ρ;cases v with
 |agg cs=>
  have hx:x∈cs:=hx;obtain⟨i,hi⟩:=Array.mem_iff_getElem?.1 hx;cases hr with
  |agg hc Mi=>exact Mi i x x hi hi
 |_=>
  have hx:x∈#[_]:=hx;rw[Array.mem_singleton]at hx;subst hx;exact hr
variable {α:Type}
def jz {σ:Type}{I:σ->Prop}{f:α->σ->Option (ForInStep σ)}(hf:∀x s r,I s->f x s=some r->I r.value):∀(l:List α) (s r:σ),I s->forIn l s f=some r->I r:=by
 intro l
 induction l with
 |nil=>intro s r hs h;cases h;exact hs
 |cons x l ih=>
  intro s r hs h;rw[List.forIn_cons]at h;simp only[bind,ZX]at h;obtain⟨q,hq,h⟩:=h;have:=hf x s q hs hq;cases q with
  |done b=>cases h;exact this
  |yield b=>exact ih b r this h
variable {i:TypeInfo}
def X_ {info:Zs->Option TypeInfo}(hi:∀t i v,info t=some i->i.zero=some v->Zv v){fs:Array Field}(h:Made.reckonStruct info fs=some i)(hv:i.zero=some v):Zv v:=by
 unfold Made.reckonStruct at h;simp only[bind,ZX,pure]at h;obtain⟨a,ha,h⟩:=h;rw[<-Zaf]at ha;have hI:=jz (I:=fun s:Array Field×Nat×Nat×Nat×Nat×Bool×Bool×Option (Array Zf)×String=>∀z,s.2.2.2.2.2.2.2.1=some z->∀x∈z,Zv x) (fun f s r hs h=>?_) _ _ _ (fun z hz=>by cases hz;intro x hx;simp at hx) ha
 .have hz:∀z,i.zero=some z->∃cs,a.2.2.2.2.2.2.2.1=some cs/\z=.agg cs:=by
   intro z hz;split at h<;>(cases h;simpa[eq_comm]using hz)
  obtain⟨cs,h1,rfl⟩:=hz v hv;exact dj (hI cs h1)
 obtain⟨j,hj,h⟩:=ZX.1 h;have key:∀z,(s.2.2.2.2.2.2.2.1.bind fun a=>j.zero.bind fun b=>some (a++b.cells))=some z->∀x∈z,Zv x:=by
  intro z hz;obtain⟨a,ha,hz⟩:=ZX.1 hz;obtain⟨b,hb,hz⟩:=ZX.1 hz;cases hz;intro x hx;rcases ZaH.1 hx with hx|hx
  .exact hs a ha x hx
  exact X9 (hi _ _ _ hj hb) x hx
 repeat' split at h
 all_goals simp only[ZX,ZJ,reduceCtorEq,false_and,exists_const,and_false]at h
 all_goals first
  |exact h.elim
  |(obtain⟨_,_,h⟩:=h
    subst h
    first
     |exact fun z hz=>key z hz
     |exact fun z hz=>by cases hz)
def jA {info:Zs->Option TypeInfo}(hi:∀t i v,info t=some i->i.zero=some v->Zv v){d:TypeDesc}(h:Made.reckon info d=some i)(hv:i.zero=some v):Zv v:=by
 unfold Made.reckon at h;cases d with
 |struct fs=>exact X_ hi h hv
 |pointer e=>
  simp only[bind,ZX]at h;obtain⟨j,hj,h⟩:=h;have:v=.pointer none:=by
   repeat' split at h
   all_goals simp only[pure,ZX,ZJ,reduceCtorEq]at h
   all_goals first
    |(obtain⟨_,_,h⟩:=h;subst h;simpa[Zcp,eq_comm]using hv)
    |exact h.elim
  subst this;exact fun ρ=>.pointer trivial
 |slice e=>
  simp only[bind,pure,ZX,ZJ]at h;obtain⟨_,_,_,_,h⟩:=h;subst h;simp only[Zcp,ZJ]at hv;subst hv;exact fun ρ=>.slice 0 0 trivial
 |map k e=>
  simp only[bind,pure,ZX,ZJ]at h;obtain⟨_,_,_,_,_,_,_,_,h⟩:=h;subst h;simp only[Zcp,ZJ]at hv;subst hv;exact fun ρ=>.map trivial
 |chan dir e=>
  simp only[bind,pure,ZX,ZJ]at h;obtain⟨_,_,_,_,h⟩:=h;subst h;simp only[Zcp,ZJ]at hv;subst hv;exact fun ρ=>.chan trivial
 |func ps rs va=>
  simp only[bind,pure,ZX,ZJ]at h;obtain⟨_,_,h⟩:=h;subst h;simp only[Zcp,ZJ]at hv;subst hv;exact fun ρ=>.nilFunc
 |array n e=>
  simp only[bind,pure,ZX,ZJ]at h;obtain⟨j,hj,_,_,h⟩:=h;subst h;dsimp only at hv;split at hv
  .cases hv
  .split at hv
   .cases hv
    exact dj fun x hx=>by simp at hx
   .rw[zc]at hv
    obtain⟨z,hz,rfl⟩:=hv;refine dj fun x hx=>?_;rw[Array.mem_flatten]at hx;obtain⟨cs,hcs,hx⟩:=hx;rw[Array.mem_replicate]at hcs;rw[hcs.2]at hx;exact X9 (hi _ _ _ hj hz) x hx
 |_=>cases h
variable {T:Tables}
def X' (hz:∀(t:Nat) (i:TypeInfo) (v:Zf),T.types[t]?=some i->i.zero=some v->Zv v):∀(n:Nat) t i v,Made.infoAt T n t=some i->i.zero=some v->Zv v:=by
 intro n
 induction n with
 |zero=>intro t i v h;cases h
 |succ n ih=>
  intro t i v h hv;unfold Made.infoAt at h;split at h
  .exact hz _ _ _ h hv
  obtain⟨d,_,h⟩:=ZX.1 h;exact jA ih h hv
def jB (hz:∀(t:Nat) (i:TypeInfo) (v:Zf),T.types[t]?=some i->i.zero=some v->Zv v)(t:Zs)(i:TypeInfo)(v:Zf)(h:T.info? t=some i)(hv:i.zero=some v):Zv v:=by
 unfold Tables.info? at h;split at h
 .exact hz _ _ _ h hv
 exact X' hz _ _ _ _ h hv
def ae {P' P:Zo}(ht:P'.toTables=P.toTables)(hz:P.types.all (fun i=>i.zero.all (Pt 8))=true)(hl:(P.info? 0).all (fun i=>(i.methods.find? (fun m=>m.name== "")).isNone)=true):Twins P' P where
 tables:=ht
 lack i hi:=by
  rw[hi]at hl;simpa using hl
 zero t i v hi hv:=jB (T:=P.toTables) (fun t i v h hv ρ=>by
  have hm:=zS.1 hz i (zY h);rw[hv]at hm;exact Ln 8 hm) t i v hi hv
open Classical in
def II:Obj->Obj
 | .cells c e f=>.cells c e (min 0 f.1,max c.size f.2)
 |o=>if Pl o=true then .coro none else o
def ag (w:Zb):Zb:= {w with heap:=w.heap.map II}
def Qy (w:Zb)(b:Nat):(ag w).heap[b]?=(w.heap[b]?).map II:=by
 unfold ag;simp
def nT (w:Zb):(ag w).heap.size=w.heap.size:=by
 unfold ag;simp
variable {w w₂ w₁ w':Zb}
variable {b c n:Nat}
def dm {t:Zs}(h:w.shape? b=some (t,n)):Cw (ag w) b:=by
 unfold Yn at h;cases ho:w.heap[b]? with
 |none=>rw[ho]at h;cases h
 |some o=>
  rw[ho]at h;cases o with
  |cells c e f=>
   have hg:(ag w).heap[b]?=some (.cells c e (min 0 f.1,max c.size f.2)):=by rw[Qy,ho];rfl
   refine⟨e,c.size,by unfold Yn;rw[hg],fun off al2=>?_⟩;clear h;unfold Yo;rw[hg];simp;omega
  |_=>cases h
variable {σ ρ τ:Ren}
def nU (h:WR ρ w w')(hb:ρ b=some c):Cw (ag w) b\/∃o,Quiet o/\(ag w).heap[b]?=some o:=by
 obtain⟨o,o',h1,h2,h3⟩:=h.obj b c hb;have hg:(ag w).heap[b]?=some (II o):=by rw[Qy,h1];rfl
 cases h3 with
 | @cells c c' e f f' hv hf=>exact .inl (dm (t:=e) (n:=c.size) (by unfold Yn;rw[h1]))
 |number lost h=>exact .inr ⟨_,.number _ _,hg⟩
 |junk h=>exact .inr ⟨_,.coro,hg⟩
 |_=>exact .inr ⟨_,.coro,hg⟩
def nV (w:Zb)(a:Addr):(ag w).cell? a=w.cell? a:=by
 unfold zy;rw[Qy];cases w.heap[a.block]? with
 |none=>rfl
 |some o=>cases o<;>first|rfl|(show(match some (II _) with|some (.cells c _ _)=>_|_=>none)=_;unfold II;split<;>rfl)
def EJ (w:Zb)(o:Obj):Zb:= {w with heap:=w.heap.push o}
def Il (w:Zb)(o:Obj)(h:b<w.heap.size):(EJ w o).heap[b]?=w.heap[b]? :=by
 unfold EJ;simp only;rw[Zd3 h,Zx h]
def Io (w:Zb)(o:Obj):(EJ w o).heap[w.heap.size]?=some o:=by
 unfold EJ;simp
def VO (w:Zb)(o:Obj):(EJ w o).heap.size=w.heap.size+1:=by
 unfold EJ;simp
def VP (h:WR ρ w w')(hc:ρ.P5 w.heap.size c):ρ.le (ρ.ext w.heap.size c hc):=by
 refine⟨fun b d hb=>?_,rfl,rfl,rfl⟩;have:=(h.lt hb).1;show(if b=w.heap.size then some c else ρ b)=some d;rw[if_neg (by omega)];exact hb
variable {o:Obj}
def WR.push (h:WR ρ w w')(hc:ρ.P5 w.heap.size c){o':Obj}(rH:w'.heap[c]?=some o')(hO:OR (ρ.ext w.heap.size c hc) o o'):WR (ρ.ext w.heap.size c hc) (EJ w o) w':=by
 refine⟨fun b d hb=>?_,h.os⟩;have G1:(if b=w.heap.size then some c else ρ b)=some d:=hb;split at G1
 .next e=>
  cases G1;subst e;exact⟨o,o',Io w o,rH,hO⟩
 obtain⟨p,p',h1,h2,h3⟩:=h.obj b d G1;exact⟨p,p',by rw[Il w o (h.lt G1).1];exact h1,h2,h3.mono (VP h hc)⟩
def ah (h:Cw w b):Cw (EJ w o) b:=by
 have Az:=h.lt;have he:=Il w o Az;obtain⟨t,n,h1,h2⟩:=h;refine⟨t,n,?_,fun off ho=>?_⟩
 .unfold Yn at*
  rw[he];exact h1
 have:=h2 off ho;unfold Yo at*;rw[he];exact this
end Go.FA
namespace Go.FA
open Go Go.Conc
section
variable {P':Zo}{B:H9}{Stop:Zi->Zb->Prop}
structure OK (P':Zo)(B:H9)(Stop:Zi->Zb->Prop):Prop where
 fin:∀g w,Stop g w->BQ B g->g.status=.running/\∃v es,∀u,za P' true g u=.go (AU ((C5 P').finish v) []) u es
 out:∀g w,Stop g w->¬BQ B g->∃fr,g=AU fr []/\∀u,∃o u' e,za P' true g u=.ended o u' e
def OK.KJ (K:OK P' B Stop):∀g w t,Stop g w->¬BQ B g->RU P' true g (tp w t):=fun g w t h hn=>
 let⟨_,_,h⟩:=K.out g w h hn
 IE (h (tp w t))
variable {g Bs AH:Zi}
variable {w w₂ w₁ w':Zb}
def R3 {g':Zi}(h:solo g w=solo g' w'):g=g'/\w=w':=by
 unfold solo at h;simp at h;exact⟨h.2,h.1⟩
def IJ (K:OK P' B Stop){ge:Zi}{we:Zb}(h2:∀v,ge≠AU ((C5 P').finish v) []):∀(N:Nat) (g:Zi) (w:Zb),Cv P' B true Stop g w->runN P' N (solo g w)=.next (solo ge we)->(g=ge/\w=we)\/CI P' B true g w ge we:=by
 intro N
 induction N with
 |zero=>
  intro g w _ h;exact .inl (R3 (by simpa[runN]using h))
 |succ N ih=>
  intro g w hM h;cases hM with
  |stop hs=>
   by_cases ha:BQ B g
   .obtain⟨hr,v,es,hgo⟩:=K.fin g w hs ha
    have Bu:=step_solo_go hr (hgo w);have h':runN P' N (lone ((C5 P').finish v) [] w)=.next (solo ge we):=by
     have:=h;simp only[runN,Bu]at this;exact this
    have h3:=runN_ended (EO Ht) h';exact absurd (R3 (show solo (AU ((C5 P').finish v) []) w=solo ge we from h3)).1.symm (h2 v)
   .obtain⟨fr,rfl,he⟩:=K.out g w hs ha
    have h':runN P' (N+1) (lone fr [] w)=.next (solo ge we):=h;have h3:=runN_ended (EO (he w)) h';exact .inl (R3 (show solo (AU fr []) w=solo ge we from h3))
  |step hn hr AH w₁ es h' k=>
   have hgo:za P' true g w=.go (AH w.tape) (w₁ w.tape) (es w.tape):=h' w.tape;have Bu:=step_solo_go hr hgo;have h3:runN P' N (solo (AH w.tape) (w₁ w.tape))=.next (solo ge we):=by
    have:=h;simp only[runN,Bu]at this;exact this
   rcases ih _ _ (k w.tape) h3 with⟨e1,e2⟩|hp
   .refine .inr ?_
    rw[<-e1, <-e2];exact .one w.tape hn (h' w.tape)
   exact .inr (.cons w.tape hn (h' w.tape) hp)
variable {f:ZaQ}
variable {args:Array Zf}
variable {cs cs':List ZM}
variable {Post:Zf->Zb->Prop}
def R4 (K:OK P' B Stop){c:ZM}{PostX:List zk->Zb->Prop}(hc:cs≠ [])(hM:Cv P' B true Stop (AU (Zq P' f args .normal) (c::cs)) w)(h:Calls P' f args w (gr Post PostX)):
  (∃v w₁,Post v w₁/\CI P' B true (AU (Zq P' f args .normal) (c::cs)) w (AU (c.finish v) cs) w₁)\/∃x w₁,PostX x w₁/\CI P' B true (AU (Zq P' f args .normal) (c::cs)) w (AU (c.raise x) cs) w₁:=by
 have BL:∀(g:Zi) fr,g=AU fr cs->AU (Zq P' f args .normal) (c::cs)≠g:=by
  rintro _ fr rfl hx;have:=congrArg (fun g:Zi=>g.callers.length) hx;simp[AU]at this
 obtain⟨e,w',fr,hR,sS,_,yV⟩:=h (c::cs);cases e with
 |returned v=>
  obtain⟨N,hN⟩:=Steps.trans (show Steps P' _ _ from sS) (Steps.one (step_leave_returned yV));refine .inl ⟨v,w',hR,?_⟩;have k2:∀v',AU (c.finish v) cs≠AU ((C5 P').finish v') []:=fun v' hx=>hc (congrArg ZaP hx);rcases IJ K k2 N _ _ hM hN with⟨e1,_⟩|hp
  .exact absurd e1 (BL _ _ rfl)
  .exact hp
 |panicked x=>
  obtain⟨N,hN⟩:=Steps.trans (show Steps P' _ _ from sS) (Steps.one (step_leave_panicked yV));refine .inr ⟨x,w',hR,?_⟩;have k2:∀v',AU (c.raise x) cs≠AU ((C5 P').finish v') []:=fun v' hx=>hc (congrArg ZaP hx);rcases IJ K k2 N _ _ hM hN with⟨e1,_⟩|hp
  .exact absurd e1 (BL _ _ rfl)
  .exact hp
 |outgrown=>exact hR.elim
end
variable {σ ρ τ:Ren}
def AR.fun {a x y:Addr}(h:AR σ a x)(k:AR σ a y):x=y:=by
 obtain⟨h1,h2,h3⟩:=h;obtain⟨k1,k2,k3⟩:=k;rw[h1]at k1;obtain⟨xb,xo,xs⟩:=x;obtain⟨yb,yo,ys⟩:=y;simp only[ZJ]at k1;dsimp only at h2 h3 k2 k3;subst h2 h3 k2 k3 k1
 rfl
variable {a:Option Addr}
def Om.fun {x y:Option Addr}(h:Om σ a x)(k:Om σ a y):x=y:=by
 cases a<;>cases x<;>cases y<;>first|exact h.elim|exact k.elim|rfl|exact congrArg some (AR.fun h k)
variable {b c n:Nat}
variable {x v:Zf}
def VR.OL {y:Zf}(h:VR σ (.slice a n c) x)(k:VR σ (.slice a n c) y):x=y:=by
 cases h with
 |slice _ _ h=>cases k with
  |slice _ _ k=>rw[Om.fun h k]
structure Ren.sub (ρ τ:Ren):Prop where
 map:∀b c,ρ b=some c->τ b=some c
 val:∀f,ρ.ok f=true->τ.ok f=true
def AR.sub (s:ρ.sub τ){a x:Addr}(h:AR ρ a x):AR τ a x:=⟨s.map _ _ h.1,h.2⟩
def Om.sub (s:ρ.sub τ){x:Option Addr}(h:Om ρ a x):Om τ a x:=by
 cases a<;>cases x<;>first|exact h.elim|trivial|exact AR.sub s h
def Rq.sub (s:ρ.sub τ){a x:Option Nat}(h:Rq ρ a x):Rq τ a x:=by
 cases a<;>cases x<;>first|exact h.elim|trivial|exact s.map _ _ h
def mP.sub (s:ρ.sub τ){a x:Fn}(h:mP ρ a x):mP τ a x:=by
 cases h with
 |func h=>exact .func (s.val _ h)
 |yield h=>exact .yield (s.map _ _ h)
def VR.sub {ρ τ:Ren}(s:ρ.sub τ){v x:Zf}(h:VR ρ v x):VR τ v x:=by
 induction h with
 |bool b=>exact .bool b
 |int i n=>exact .int i n
 |string t=>exact .string t
 |pointer h=>exact .pointer (h.sub s)
 |slice n c h=>exact .slice n c (h.sub s)
 |map h=>exact .map (h.sub s)
 |chan h=>exact .chan (h.sub s)
 |func h ha _ hc _ iha ihc=>exact .func (h.sub s) ha iha hc ihc
 |nilFunc=>exact .nilFunc
 |iface t _ ih=>exact .iface t ih
 |nilIface=>exact .nilIface
 |agg hc _ ih=>exact .agg hc ih
 |tuple hc _ ih=>exact .tuple hc ih
 |Ew h=>exact .Ew h
 |meth n f c=>exact .meth n f c
def BS.sub (s:ρ.sub τ){a x:Array Zf}(h:BS ρ a x):BS τ a x:=⟨h.1,fun i v y h1 h2=>(h.2 i v y h1 h2).sub s⟩
structure Ren.Gi (ρ τ:Ren):Prop where
 map:∀b c,ρ b=some c->τ c=some c
 val:∀f,ρ.ok f=true->τ.ok f=true
def AR.Gi (s:ρ.Gi τ){a x:Addr}(h:AR ρ a x):AR τ x x:=⟨s.map _ _ h.1,rfl,rfl⟩
def Om.Gi (s:ρ.Gi τ){x:Option Addr}(h:Om ρ a x):Om τ x x:=by
 cases a<;>cases x<;>first|exact h.elim|trivial|exact AR.Gi s h
def Rq.Gi (s:ρ.Gi τ){a x:Option Nat}(h:Rq ρ a x):Rq τ x x:=by
 cases a<;>cases x<;>first|exact h.elim|trivial|exact s.map _ _ h
def KM {b:Array Zf}(h:∀(i:Nat) x,b[i]?=some x->∃XP,VR τ XP x):∃dp:Array Zf,BS τ dp b:=by
 have h':∀i:Fin b.size,∃XP,VR τ XP b[i]:=fun i=>h i b[i] (Zx i.2);refine⟨Array.ofFn fun i:Fin b.size=>zo (h' i),by simp,fun i v x h1 h2=>?_⟩;obtain⟨hi,rfl⟩:=Za.1 h2;obtain⟨_,rfl⟩:=Za.1 h1;rw[Array.getElem_ofFn];exact zv (h' ⟨i,hi⟩)
def KN {a:Array Zf}{b:Array Zf}{p:Zf->Prop}(hs:a.size=b.size)(h:∀(i:Nat) v x,a[i]?=some v->b[i]?=some x->p x):∀(i:Nat) x,b[i]?=some x->p x:=by
 intro i x hx;have hi:i<a.size:=by have:=(Za.1 hx).1;omega
 exact h i _ x (Zx hi) hx
def VR.Gi {ρ τ:Ren}(s:ρ.Gi τ){v x:Zf}(h:VR ρ v x):∃XP,VR τ XP x:=by
 induction h with
 |bool b=>exact⟨_,.bool b⟩
 |int i n=>exact⟨_,.int i n⟩
 |string t=>exact⟨_,.string t⟩
 |pointer h=>exact⟨_,.pointer (h.Gi s)⟩
 |slice n c h=>exact⟨_,.slice n c (h.Gi s)⟩
 |map h=>exact⟨_,.map (h.Gi s)⟩
 |chan h=>exact⟨_,.chan (h.Gi s)⟩
 |func h ha _ hc _ iha ihc=>
  obtain⟨dp,h1⟩:=KM (KN ha iha);obtain⟨c₁,h2⟩:=KM (KN hc ihc);cases h with
  |func h=>exact⟨_,.Xq (.func (s.val _ h)) h1 h2⟩
  |yield h=>exact⟨_,.Xq (.yield (s.map _ _ h)) h1 h2⟩
 |nilFunc=>exact⟨_,.nilFunc⟩
 |iface t _ ih=>exact⟨_,.iface t ih.choose_spec⟩
 |nilIface=>exact⟨_,.nilIface⟩
 |agg hc _ ih=>
  obtain⟨c₁,h2⟩:=KM (KN hc ih);exact⟨_,.P6 h2⟩
 |tuple hc _ ih=>
  obtain⟨c₁,h2⟩:=KM (KN hc ih);exact⟨_,.tuple' h2⟩
 |Ew h=>exact⟨_,.Ew h⟩
 |meth n f c=>exact⟨_,.meth n f c⟩
def VR.Mv (s:ρ.Gi τ)(h:VR ρ (.slice a n c) x):VR τ x x:=by
 cases h with
 |slice n c h=>exact .slice n c (h.Gi s)
open Classical in
def canon (τ:Ren)(x:Zf):Zf:=if VR τ x x then x else if h:∃v,VR τ v x then zo h else Ze
def OM (h:∃v,VR τ v x):VR τ (canon τ x) x:=by
 unfold canon;split
 .assumption
 exact zv h
def dt (h:VR τ x x):canon τ x=x:=if_pos h
def Dm (τ:Ren):Obj->Obj
 | .cells c e f=>.cells (c.map (canon τ)) e (min 0 f.1,max c.size f.2)
 |o=>if Pl o=true then .coro none else o
def snap (τ:Ren)(w:Zb):Zb:= {w with heap:=w.heap.map (Dm τ)}
def Nt (τ:Ren)(w:Zb)(b:Nat):(snap τ w).heap[b]?=(w.heap[b]?).map (Dm τ):=by
 unfold snap;simp
def Lr (τ:Ren)(w:Zb):(snap τ w).heap.size=w.heap.size:=by
 unfold snap;simp
variable {o:Obj}
def aj (h:Pl o=true):Dm τ o=.coro none:=by
 cases o<;>first|(cases h;done)|(unfold Dm;exact if_pos rfl)
def dv (h:Pl o=true):II o=.coro none:=by
 cases o<;>first|(cases h;done)|(unfold II;exact if_pos rfl)
def Qz (n:Nat)(f:Nat×Nat):yz (min 0 f.1,max n f.2) f:=.inr (.inr ⟨by simp,Nat.le_max_right _ _⟩)
def OR.Gi {ρ τ:Ren}(s:ρ.Gi τ){o x:Obj}(h:OR ρ o x):OR τ (Dm τ x) x:=by
 have box:Pl x=true->OR τ (Dm τ x) x:=fun hb=>by rw[aj hb];exact .junk hb
 cases h with
 | @cells c c' e f f' hv hf=>
  refine .cells e ⟨by simp,fun i v y h1 h2=>?_⟩ (Qz _ _);rw[zF,h2]at h1;cases h1;refine OM (KN (p:=fun x=>∃v,VR τ v x) hv.1 (fun i v x h1 h2=>(hv.2 i v x h1 h2).Gi s) i y h2)
 |number l h=>exact .number l (AR.Gi s h)
 |junk h=>exact box h
 |_=>exact box rfl
variable {w w₂ w₁ w':Zb}
def UE (h:w.heap[b]?=some o)(hO:OR τ (Dm τ o) o):Cw (snap τ w) b\/∃q,Quiet q/\(snap τ w).heap[b]?=some q:=by
 have hg:(snap τ w).heap[b]?=some (Dm τ o):=by rw[Nt,h];rfl
 cases o with
 |cells c e f=>
  refine .inl ⟨e,(c.map (canon τ)).size,by unfold Yn;rw[hg];rfl,fun off ho=>?_⟩;unfold Yo;rw[hg];simp[Dm]at ho⊢;omega
 |number a l=>exact .inr ⟨_,.number a l,hg⟩
 |pending _ _=>cases hO
 |view _ _=>cases hO
 |_=>exact .inr ⟨_,.coro,hg⟩
def I9 {a:Addr}(h:w.cell? a=some v)(hv:VR τ v v):(snap τ w).cell? a=some v:=by
 unfold zy at*;rw[Nt];cases ho:w.heap[a.block]? with
 |none=>rw[ho]at h;cases h
 |some o=>
  rw[ho]at h;cases o with
  |cells c e f=>
   show(match some (Dm τ (.cells c e f)) with|some (.cells c _ _)=>_|_=>none)=_;simp only[Dm]at*;split at h
   .cases h
   .rw[if_neg ‹_›];rw[zF,h];simp[dt hv]
  |_=>first|(cases h;done)|(exfalso;simp at h;done)
open Classical in
def Ren.VQ (D:Nat->Prop)(ok:Pk)(good:Code->Bool)(sp:ZaQ->Bool)(hl:D ok.low):Ren where
 map:=fun b=>if D b then some b else none
 ok:=ok
 good:=good
 sp:=sp
 inj:=by
  intro b sd c h1 h2;split at h1<;>split at h2<;>first|cases h1|cases h2|skip
  all_goals simp_all
 base:=if_pos hl
 sep:=by
  intro b c h;split at h<;>cases h
  rfl
variable {S D:Nat->Prop}
variable {good:Code->Bool}
variable {sp:ZaQ->Bool}
open Classical in
def Gj {ok:Pk}{hl:D ok.low}:(Ren.VQ D ok good sp hl) b=some c↔D b/\b=c:=by
 show(if D b then some b else none)=some c↔_;split
 .simp[*]
 simp[*]
def OO {ok:Pk}(h:∀b c,ρ b=some c->D c)(hv:∀f,ρ.ok f=true->ok f=true){hl:D ok.low}:ρ.Gi (Ren.VQ D ok good sp hl):=⟨fun b c hb=>Gj.2 ⟨h b c hb,rfl⟩,hv⟩
def nW {ok:Pk}{hl:D ok.low}(h:∀c,D c->∃o,w.heap[c]?=some o/\OR (Ren.VQ D ok good sp hl) (Dm (Ren.VQ D ok good sp hl) o) o):WR (Ren.VQ D ok good sp hl) (snap (Ren.VQ D ok good sp hl) w) w:=by
 refine⟨fun b c hb=>?_,rfl⟩;obtain⟨hD,rfl⟩:=Gj.1 hb;obtain⟨o,h1,h2⟩:=h b hD;exact⟨_,o,by rw[Nt,h1];rfl,h1,h2⟩
def Ren.with (ρ:Ren)(ok:Pk)(good:Code->Bool)(sp:ZaQ->Bool)(hl:ok.low=ρ.ok.low):Ren:= {ρ with ok:=ok,good:=good,sp:=sp,base:=by rw[hl];exact ρ.base,sep:=by rw[hl];exact ρ.sep}
def R5 {ok:Pk}(h:∀f,ρ.ok f=true->ok f=true){hl:ok.low=ρ.ok.low}:ρ.sub (ρ.with ok good sp hl):=⟨fun _ _ h=>h,h⟩
def OR.R6 {ok:Pk}(hv:∀f,ρ.ok f=true->ok f=true){hl:ok.low=ρ.ok.low}{x:Obj}(h:OR ρ o x):OR (ρ.with ok good sp hl) (II o) x:=by
 have s:ρ.sub (ρ.with ok good sp hl):=R5 hv (hl:=hl);have box:Pl o=true->Pl x=true->OR (ρ.with ok good sp hl) (II o) x:=fun hb hx=>by rw[dv hb];exact .junk hx
 cases h with
 | @cells c c' e f f' h hf=>
  refine .cells e (BS.sub s h) ?_;rcases hf with rfl|hf|⟨h1,h2⟩
  .exact Qz _ _
  .exact .inr (.inl hf)
  .exact .inr (.inr ⟨by simp,Zr h2 (Nat.le_max_right _ _)⟩)
 |number l h=>exact .number l (h.sub s)
 |junk h=>exact box rfl h
 |_=>exact box rfl rfl
def WR.R6 {ok:Pk}(hv:∀f,ρ.ok f=true->ok f=true){hl:ok.low=ρ.ok.low}(h:WR ρ w w'):WR (ρ.with ok good sp hl) (ag w) w':=by
 refine⟨fun b c hb=>?_,h.os⟩;obtain⟨o,o',h1,h2,h3⟩:=h.obj b c hb;exact⟨II o,o',by rw[Qy,h1];rfl,h2,h3.R6 hv⟩
section
variable {P' P:Zo}
variable {B:H9}
variable {g Bs AH:Zi}
variable {t:Tape}
variable {m:Bool}
variable {es:Array Z9}
def Fx.out (T:Twins P' P)(hd:BP<=P.depth)(hB:B.LM)(hl:B.lcs=[C5 P'])(h:Fx P' P B g w\/Hs B g\/P9 B g)(hn:¬BQ B g)(hs:za P' m g (tp w t)=.go AH w₁ es):Fx P' P B AH w₁\/Hs B AH\/P9 B AH:=by
 rcases h with h|h
 .exact((h.Ds t).step T hd hB hn hs).1
 exact absurd hs (Nq hl h _ _ _)
variable {f:ZaQ}
variable {cs cs':List ZM}
variable {Post:Zf->Zb->Prop}
def nX (T:Twins P' P)(hd:BP<=P.depth)(E:Env P' P ρ)(Jv:ρ.sp=fun _=>false)(hf:ρ.ok.Nc f=true){a a':Array Zf}(ha:BS ρ a a'){wl:Zb}(hw:WR ρ wl w')
 {c':ZM} (hb:C_ Post) (hc:∀t,Calls P' f a (tp wl t) (gr Post fun _ _=>False))
 (hq:∀(v:Zf) (w:Zb),Post v w->∀(b:Nat) (o:Obj),Quiet o->wl.heap[b]?=some o->w.heap[b]?=some o)
 (R7:∀b c,ρ b=some c->Cw wl b\/∃o,Quiet o/\wl.heap[b]?=some o) (hS:∀c,S c↔∃b,ρ b=some c):
  Xe P m (fun c=>∃b,ρ b=some c) (fun S g w=>∃σ GR v v',g=AU (c'.finish v') cs'/\Post v GR/\VR σ v v'/\ρ.le σ/\(∀b c,σ b=some c->ρ b=some c\/(wl.heap.size<=b/\w'.heap.size<=c))/\WR σ GR w/\∀c,S c↔∃b,σ b=some c) S (AU (Zq P f a' .normal) (c'::cs')) w':=by
 let B:H9:=⟨.whole,[C5 P'],c'::cs',false⟩
 have hB:B.LM:=⟨fun _=>Cut.RL,by simp[B],fun _=>by simp[B],fun h=>by cases h⟩;have hG:sP P' P B ρ (AU (Zq P' f a .normal) [C5 P']) (AU (Zq P f a' .normal) (c'::cs')):=
  ⟨_,_,_,_,rfl,rfl,.bot (B:=B) (Hp.enter E hf (by rw[Jv]) ha)⟩
 have ak:Fx P' P B (AU (Zq P' f a .normal) [C5 P']) wl:=⟨ρ,_,_,E,hG,hw,Jv⟩;have K:Dg P' B true (gh P' Post fun _ _=>False):=XN rfl hb (fun _ _ _ x=>x);have hM:=TN T hd hB rfl rfl rfl hb (fun _ _ _ x=>x) ak hc;have dy:∀(g:Zi) (w:Zb),gh P' Post (fun _ _=>False) g w->∀(b:Nat) (o:Obj),(Quiet o/\wl.heap[b]?=some o)->w.heap[b]?=some o:=by
  rintro g w (⟨v,_,h⟩|⟨x,_,h⟩) b o ⟨h1,h2⟩
  .exact hq v w h b o h1 h2
  exact h.elim
 have Az:∀(b:Nat) (o:Obj),(Quiet o/\wl.heap[b]?=some o)->b<wl.heap.size:=fun b o h=>(Za.1 h.2).1;have H:Nr P' P B (fun b o=>Quiet o/\wl.heap[b]?=some o) ρ wl.heap.size w'.heap.size (fun c=>∃b,ρ b=some c) S ρ (AU (Zq P' f a .normal) [C5 P']) wl (AU (Zq P f a' .normal) (c'::cs')) w':=
  ⟨E,Ren.le_refl _,fun _ _ h=>.inl h,⟨Zj _,Zj _⟩,.inl hG,hw,fun c ⟨b,Kf⟩=>⟨b,Kf,(R7 b c Kf).imp id fun⟨o,h1,h2⟩=>⟨o,⟨h1,h2⟩,h2⟩⟩,hS⟩
 have hR:=KL (m':=m) T hd hB K (D:=fun g w=>Fx P' P B g w\/Hs B g\/P9 B g) (fun g w t AH w₁ es h hn hs=>Fx.out T hd hB rfl h hn hs) (J:=fun b o=>Quiet o/\wl.heap[b]?=some o) (fun b o h=>⟨h.1,Az b o h⟩)
  (fun g w hD hz hM b o h=>Mr T hd hB K (fun b o h=>h.1) dy hM hD b o h (Zl (Az b o h) hz))
  (fun σ g w _ hl B_=>by
   obtain⟨c,r,x,x',h1,h2,_⟩:=hl;cases h1;rcases B_ with⟨v,h3,_⟩|⟨y,_,h4⟩
   .rw[h2]at h3
    have:=congrArg (fun g:Zi=>g.frame) h3;exact DH this.symm
   exact h4) hM (.inl ak) S ρ _ _ H
 refine hR.imp fun FO g w₁ hx=>?_;rcases hx with⟨σ,gl,GR,B_,HH⟩|⟨σ,gl,GR,t,_,hsr,HH⟩
 .rcases B_ with⟨v,rfl,hp⟩|⟨y,_,h4⟩
  .rcases HH.goes with hg|Ga|⟨nY,_,_,_,_,_,_,_,GU,_⟩
   .exfalso
    obtain⟨gp,gq,h1,h2⟩:=hg.AU;have:=congrArg (fun g:Zi=>g.callers.length) h1;simp only[AU,zR]at this;simp only[B,zb,zR]at h2;omega
   .obtain⟨_,c,r,c₂,auQ,XP,vW,h1,h2,h3,h4,h5⟩:=Ga
    cases h1;cases h2;have e:v=XP:=Mq (congrArg (fun g:Zi=>g.frame) h4);subst e;exact⟨σ,GR,v,vW,h5,hp,h3,HH.le,HH.fresh,HH.world,HH.holds⟩
   rw[HH.le.2.2.2,Jv]at GU;cases GU
  exact h4.elim
 obtain⟨nY,_,_,_,_,_,_,_,GU,_⟩:=hsr;rw[HH.le.2.2.2,Jv]at GU;cases GU
variable {args:Array Zf}
def Es {Stop:Zi->Zb->Prop}(K:OK P' B Stop){fn:Func}{i:Nat}(hf:P'.funcs[f]?=some fn)(hr:fn.results= #[.tmp i]){c:ZM}(Kb:B.lcs.length<(c::cs).length)(hM:Cv P' B true Stop (AU (Zq P' f args .normal) (c::cs)) w)(h:Calls P' f args w (gr Post fun _ _=>False)):
  ∃v w₁,Post v w₁/\∀t,CI P' B true (AU (Zq P' f args .normal) (c::cs)) w (AU (c.finish v) cs) (tp w₁ t):=by
 obtain⟨e,w',fr,hR,sS,G9,yV⟩:=h (c::cs);cases e with
 |panicked x=>exact hR.elim
 |outgrown=>exact hR.elim
 |returned v=>
  refine⟨v,w',hR,fun t=>?_⟩;obtain⟨N,hN⟩:=show Steps P' _ _ from sS;have k2:∀v',AU fr (c::cs)≠AU ((C5 P').finish v') []:=fun v' hx=>by cases congrArg ZaP hx
  have RV:¬BQ B (AU fr (c::cs)):=by
   rintro(⟨_,h1,_⟩|⟨_,h1,_⟩)<;>(have h2:(c::cs).length=B.lcs.length:=h1;omega)
  have wh:za P' true (AU fr (c::cs)) (tp w' t)=.go (AU (c.finish v) cs) (tp w' t) (seen P' fr.fn #[]):=by
   obtain⟨hm,hd,hk,Qt,hf',Pn⟩:=yV;rw[G9,hf]at hf';cases hf';have e1:=results_tmp (P':=P') hr fr.tmps w';have e2:(results fn fr.tmps).run P' w'=.ok (fr.tmps.getD i Ze) w':=by
    have:=congrArg Prod.fst e1;simpa[Sem.run]using this
   rw[e2]at Pn;cases Pn;rw[BG.2 (by rw[hm];intro h;cases h)];exact DV hd hm hk (by rw[G9];exact hf) (results_tmp hr _ _)
  rcases IJ K k2 N _ _ hM hN with⟨e1,e2⟩|hp
  .have e3:Zq P' f args .normal=fr:=congrArg (fun g:Zi=>g.frame) e1
   rw[e1,e2];exact .one t RV wh
  exact hp.snoc t RV wh
end
variable {α:Type}
def Ep.left {β:Type}{R:α->β->Prop}{l:List α}{m:List β}(h:Ep R l m){x:α}(hx:x∈l):∃y∈m,R x y:=by
 induction h with
 |nil=>cases hx
 |cons h _ ih=>
  rcases List.mem_cons.1 hx with rfl|hx
  .exact⟨_,zC,h⟩
  obtain⟨y,hy,hr⟩:=ih hx;exact⟨y,zm _ hy,hr⟩
section
variable {P' P:Zo}{B:H9}{ρ:Ren}{Stop:Zi->Zb->Prop}
variable {fr:ZM}
def Hp.plain (E:Env P' P ρ){K:Cut}(hK:K.seg=false){Bx:ZM}(h:Hp P' P K ρ fr Bx):R0 P' ρ fr:=by
 refine⟨?_,fun d hd=>?_⟩
 .obtain⟨fn,_,h1,_⟩:=E.Nc.has fr.fn (h.src hK).1 (h.src hK).2
  exact⟨fn,h1⟩
 obtain⟨k,_,hl⟩:=h.defers;obtain⟨y,_,hr⟩:=hl.left hd;cases hr with
 |mk hb=>exact⟨_,_,_,hb,rfl⟩
def Gh.plain (E:Env P' P ρ)(hK:B.K.seg=false){M M':List ZM}(h:Gh P' P B ρ M M'):∃f L,M=f::(L++B.lcs)/\R0 P' ρ f/\∀c∈L,R0 P' ρ c:=by
 induction h with
 |bot h=>exact⟨_,[],rfl,h.plain E hK,fun c hc=>by cases hc⟩
 |cons h BL t ih=>
  obtain⟨f,L,e,h1,h2⟩:=ih;cases e;refine⟨_,_::L,rfl,h.plain E rfl,fun c hc=>?_⟩;rcases List.mem_cons.1 hc with rfl|hc
  .exact h1
  exact h2 c hc
def WR.dw (h:WR ρ w w'):DW ρ w:=by
 intro b b' hb ds hd;obtain⟨o,o',h1,h2,h3⟩:=h.obj b b' hb;rw[hd]at h1;cases h1;cases h3 with
 |deferred=>rfl
def DW.Ar (h:DW ρ w)(hn:∀b b',ρ b=some b'->b<n)(hs:∀b,b<n->w₁.heap[b]?=w.heap[b]?):DW ρ w₁:=by
 intro b b' hb ds hd;rw[hs b (hn b b' hb)]at hd;exact h b b' hb ds hd
variable {cs cs':List ZM}
variable {g Bs AH:Zi}
def TQ (K:Dg P' B true Stop)(KJ:∀g w t,Stop g w->¬BQ B g->RU P' true g (tp w t))(hl:B.lcs=[C5 P'])(Kg:B.K.seg=false)(lP:∀(fr:ZM) cs w x,fr.mode=.panicking x->cs≠ []->¬Stop (AU fr cs) w)(E:Env P' P ρ)
 {f f':ZM} (hS:Gh P' P B ρ (f::cs) (f'::cs')) (hM:Cv P' B true Stop g w) {x:List zk} (hp:CI P' B true g w (AU (f.raise x) cs) w₁) (hD:DW ρ w₁):
  ∃w₂ y,Cr w₁ w₂/\Stop (AU ((C5 P').raise (x++y)) []) w₂:=by
 obtain⟨auR,L,e,h1,h2⟩:=hS.plain E Kg;cases e;rw[hl]at hp;obtain⟨y,hm,hr⟩:=raise_mode f x;obtain⟨w₂,z,h3,h4⟩:=XZ (ρ:=ρ) K KJ hl lP L (f.raise x) w₁ (x++y) hm (by rw[hr];exact⟨h1.fn,h1.defers⟩) h2 hD (hM.path KJ hp);exact⟨w₂,y++z,h3,by rw[<-Zae];exact h4⟩
variable {Post:Zf->Zb->Prop}
def KO {fn:Func}{PostX:List zk->Zb->Prop}(hl:B.lcs=[C5 P']):OK P' B (Ez P' B fn Post PostX) where
 fin g w h ha:=by
  rcases h with⟨_,_,i,_,_,h1,es,h2⟩|⟨x,rfl,_⟩
  .exact⟨h1,_,es,h2⟩
  exfalso;rcases ha with⟨_,h1,_⟩|⟨_,h1,_⟩<;>(rw[hl]at h1;cases h1)
 out g w h hn:=by
  rcases h with⟨ha,_⟩|⟨x,rfl,_⟩
  .exact absurd ha hn
  exact⟨_,rfl,fun u=>OH⟩
def nZ {fn:Func}{PostX:List zk->Zb->Prop}:∀(fr:ZM) cs w x,fr.mode=.panicking x->cs≠ []->¬Ez P' B fn Post PostX (AU fr cs) w:=by
 rintro fr cs w x hm hc (⟨ha,_⟩|⟨y,h,_⟩)
 .exact F_ hm ha
 exact hc (congrArg ZaP h)
end
end Go.FA
