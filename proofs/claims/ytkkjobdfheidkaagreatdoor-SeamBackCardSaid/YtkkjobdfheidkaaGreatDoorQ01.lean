/- Part of a proof. -/
import Derived.Test.YtkkjobdfheidkaaGreatDoorQ00
import Derived.Conc.LoneCalls
set_option maxRecDepth 100000
set_option maxHeartbeats 6400000
noncomputable section
set_option linter.all false
open Array renaming getElem?_eq_some_iff->Za,getElem?_setIfInBounds_ne->Zk,mem_of_getElem?->zC,forIn_toList->Zai,mem_append->ZaN,all_eq_true_iff_forall_mem->z8,getElem?_push_lt->Zd2,getElem?_eq_getElem->ZC,getElem?_map->zN
open Classical renaming choose->zu,choose_spec->zA
open Go renaming Program->Zp,Goroutine->Zi,World->Zc,Event->zc,stepG->zd,Trace->Y8,runNT->ZaI,Value->Ze,TypeId->Zr,Frame->ZT,PanicEntry->zn,FuncId->ZaV,undef->Zf
open Go.Conc renaming crowd->Ys
open Go.Frame renaming raise->Za0,enter->Zq
open Go.Goroutine renaming callers->ZaU
open Go.Instr renaming takeDeferred->YF
open Go.Made renaming word->Zcu
open Go.Obj renaming cells->ZbM
open Go.Sem renaming runT_eq->zk,bind->Zcd,runT->ZM
open Go.World renaming shape?->Yx,frozen?->Yy,cell?->zG
open List renaming append_nil->Zap,append_assoc->Zah,length_nil->Yt,length_cons->zp,mem_cons_self->zo,mem_cons_of_mem->Z9
open Nat renaming le_trans->Zt,lt_of_lt_of_le->Zm,le_refl->Zj
open Option renaming bind_eq_some_iff->Z6,map_eq_some_iff->zf
open Option.some renaming injEq->ZN
namespace Go.FO
open Go Go.Conc
open Go.ConcN (sumTo upd sumTo_upd upd_ne upd_same)
inductive CP (P':Zp)(B:Ik)(m:Bool):Zi->Zc->Zi->Zc->Prop
 |one {g:Zi} {w:Zc} {AG:Zi} {w₁:Zc} {es:Array zc} (t:Tape) (hn:¬BZ B g) (h:zd P' m g (tp w t)=.go AG w₁ es):CP P' B m g w AG w₁
 |cons {g:Zi} {w:Zc} {AG:Zi} {w₁:Zc} {Bw:Zi} {w₂:Zc} {es:Array zc} (t:Tape) (hn:¬BZ B g) (h:zd P' m g (tp w t)=.go AG w₁ es) (k:CP P' B m AG w₁ Bw w₂):CP P' B m g w Bw w₂
section
variable {P' P:Zp}{B:Ik}{m:Bool}{Stop:Zi->Zc->Prop}{Lk:Nat->Prop}
variable {g Bw AG:Zi}
variable {w w₂ w₁ w':Zc}
def CE.paths (K9:∀g w t,Stop g w->¬BZ B g->S0 P' m g (tp w t)){C:Zi->Zc->Prop}(hC:∀g w,CE P' B m Stop g w->(∀Bw w₂,CP P' B m g w Bw w₂->C Bw w₂)->C g w)(h:CE P' B m Stop g w):C g w:=by
 have key:C g w/\∀Bw w₂,CP P' B m g w Bw w₂->C Bw w₂:=by
  induction h with
  | @stop g w h=>
   have hp:∀Bw w₂,CP P' B m g w Bw w₂->C Bw w₂:=by
    intro Bw w₂ hp;cases hp with
    |one t hn hx=>exact absurd hx (K9 _ _ t h hn _ _ _)
    |cons t hn hx _=>exact absurd hx (K9 _ _ t h hn _ _ _)
   exact⟨hC _ _ (.stop h) hp,hp⟩
  | @step g w hn hr AG w₁ es h k ih=>
   have hp:∀Bw w₂,CP P' B m g w Bw w₂->C Bw w₂:=by
    intro Bw w₂ hp;cases hp with
    |one t _ hx=>
     rw[h t]at hx;cases hx;exact(ih t).1
    |cons t _ hx hk=>
     rw[h t]at hx;cases hx;exact(ih t).2 _ _ hk
   exact⟨hC _ _ (.step hn hr AG w₁ es h k) hp,hp⟩
 exact key.1
def CE.path (K9:∀g w t,Stop g w->¬BZ B g->S0 P' m g (tp w t))(h:CE P' B m Stop g w)(hp:CP P' B m g w Bw w₂):CE P' B m Stop Bw w₂:=by
 have one:∀ {g:Zi} {w:Zc} {AG:Zi} {w₁:Zc} {es:Array zc} (t:Tape),CE P' B m Stop g w->¬BZ B g->zd P' m g (tp w t)=.go AG w₁ es->CE P' B m Stop AG w₁:=by
  intro g w AG w₁ es t h hn hs;cases h with
  |stop h=>exact absurd hs (K9 _ _ t h hn _ _ _)
  |step hn _ AG w₁ es h k=>
   rw[h t]at hs;cases hs;exact k t
 induction hp with
 |one t hn hs=>exact one t h hn hs
 |cons t hn hs _ ih=>exact ih (one t h hn hs)
variable {S D:Nat->Prop}
def MZ.trans {F1 vP:Nat->Prop}(h:MZ S Lk w w₁ F1)(k:MZ F1 Lk w₁ w₂ vP):MZ S Lk w w₂ vP:=by
 refine⟨Zt h.size k.size,fun b hb hx=>?_,k.os.trans h.os,k.tape.trans h.tape,k.output.trans h.output,fun b hb=>?_⟩
 .rw[k.still b (Zm hb h.size) (hx.imp (fun hn x=>(h.more b x).elim hn (fun y=>by omega)) id)]
  exact h.still b hb hx
 .rcases k.more b hb with x|x
  .exact h.more b x
  .exact .inr (Zt h.size x)
structure Ctx (P:Zp)(S:Nat->Prop)(g':Zi)(w':Zc)(gs:Array Zi)(t:Y8)(q:Nat->Nat)(Shun:Loc->Prop):Prop where
 main:gs[0]?=some g'
 old:Leavers P t gs q
 past:Past Shun w'.heap.size t
 held:Hf Shun S w'.heap.size
 bE:He Shun w'.heap.size
def qz (P' P:Zp)(B:Ik)(J:Nat->Obj->Prop)(m:Bool)(Stop:Zi->Zc->Prop)(ρ₀:Ren)(n₀ n₀':Nat)(Lk:Nat->Prop):Prop:=
 ∀(S:Nat->Prop) (ρ:Ren) (g:Zi) (w:Zc) (g':Zi) (w':Zc) (gs:Array Zi) (sl:Option (Nat×Nat)) (t:Y8) (q:Nat->Nat) (Shun:Loc->Prop),
  jG P' P B ρ g g'->CE P' B m Stop g w->NY P' P B J ρ₀ n₀ n₀' Lk S ρ g w g' w'->Ctx P S g' w' gs t q Shun->
  ∃(N:Nat) (C6:Array Zi) (C8:Option (Nat×Nat)) (El:Y8) (GY:Nat->Nat) (Shun₁:Loc->Prop) (F1:Nat->Prop) (σ:Ren) (AG:Zi) (w₁:Zc) (Dj:Zi) (w₁':Zc),
   ZaI P N (Ys gs w' sl) t=(.next (Ys C6 w₁' C8),El)/\CP P' B m g w AG w₁/\NY P' P B J ρ₀ n₀ n₀' Lk F1 σ AG w₁ Dj w₁'/\Ctx P F1 Dj w₁' C6 El GY Shun₁/\MZ S Lk w' w₁' F1
def runNT_add (N M:Nat)(x y:Machine)(t u:Y8)(h:ZaI P N x t=(.next y,u)):ZaI P (N+M) x t=ZaI P M y u:=by
 induction N generalizing x t with
 |zero=>simp only[ZaI]at h;cases h;simp
 |succ N ih=>
  rw[show N+1+M=(N+M)+1 by omega];simp only[ZaI]at h⊢;cases hs:stepT P x with
  |mk s ops=>
   rw[hs]at h;cases s with
   |next z=>exact ih _ _ h
   |ended o w=>cases h
variable {t:Tape}
def CP.Dz (h:CP P' B m g (tp w t) Bw w₂):CP P' B m g w Bw w₂:=by
 cases h with
 |one t' hn h=>exact .one t' hn h
 |cons t' hn h k=>exact .cons t' hn h k
def CP.trans (h:CP P' B m g w AG w₁)(k:CP P' B m AG w₁ Bw w₂):CP P' B m g w Bw w₂:=by
 induction h with
 |one t hn h=>exact .cons t hn h k
 |cons t hn h _ ih=>exact .cons t hn h (ih k)
variable {es:Array zc}
def CP.snoc (h:CP P' B m g w AG w₁)(t:Tape)(hn:¬BZ B AG)(k:zd P' m AG (tp w₁ t)=.go Bw w₂ es):CP P' B m g w Bw w₂:=h.trans (.one t hn k)
def Way (P' P:Zp)(B:Ik)(J:Nat->Obj->Prop)(Stop:Zi->Zc->Prop)(ρ₀:Ren)(n₀ n₀':Nat)(Lk:Nat->Prop)(g:Zi)(w:Zc):Prop:=
  ∀(S:Nat->Prop) (ρ:Ren) (g':Zi) (w':Zc) (gs:Array Zi) (sl:Option (Nat×Nat)) (t:Y8) (q:Nat->Nat) (Shun:Loc->Prop),NY P' P B J ρ₀ n₀ n₀' Lk S ρ g w g' w'->Ctx P S g' w' gs t q Shun->
   ∃(N:Nat) (C6:Array Zi) (C8:Option (Nat×Nat)) (El:Y8) (GY:Nat->Nat) (Shun₁:Loc->Prop) (F1:Nat->Prop) (Dj:Zi) (w₁':Zc),
    ZaI P N (Ys gs w' sl) t=(.next (Ys C6 w₁' C8),El)/\y8 P' P B J Stop ρ₀ n₀ n₀' Lk F1 Dj w₁'/\Ctx P F1 Dj w₁' C6 El GY Shun₁/\MZ S Lk w' w₁' F1
def qA (T:Twins P' P)(hd:BW<=P.depth)(hB:B.Mp)(K:Dq P' B m Stop)(K9:∀g w t,Stop g w->¬BZ B g->S0 P' m g (tp w t)){ρ₀:Ren}{n₀ n₀':Nat}{J:Nat->Obj->Prop}{D₀:Zi->Zc->Prop}(aa1:∀g w t AG w₁ es,D₀ g w->¬BZ B g->zd P' m g (tp w t)=.go AG w₁ es->D₀ AG w₁)(hJq:∀b o,J b o->Quiet o/\b<n₀)
 (hJ:∀g w,D₀ g w->n₀<=w.heap.size->CE P' B m Stop g w->∀b o,J b o->w.heap[b]?=some o) (hX:∀σ g w,ρ₀.le σ->Vz B σ g->¬Stop g w) (SP:qz P' P B J m Stop ρ₀ n₀ n₀' Lk) (hM:CE P' B m Stop g w):
  D₀ g w->Way P' P B J Stop ρ₀ n₀ n₀' Lk g w:=by
 have path:∀ {g:Zi} {w:Zc} {Bw:Zi} {w₂:Zc},CP P' B m g w Bw w₂->D₀ g w->D₀ Bw w₂:=by
  intro g w Bw w₂ h
  induction h with
  |one t hn hs=>exact fun x=>aa1 _ _ t _ _ _ x hn hs
  |cons t hn hs _ ih=>exact fun x=>ih (aa1 _ _ t _ _ _ x hn hs)
 refine CE.paths (C:=fun g w=>D₀ g w->Way P' P B J Stop ρ₀ n₀ n₀' Lk g w) K9 ?_ hM;intro g w hM hp S1 S ρ g' w' gs sl t q Shun H X;have hR:=K_ (m':=true) T hd hB K (D:=fun Bw w₂=>(Bw=g/\w₂=w)\/CP P' B m g w Bw w₂) (by
  rintro Bw w₂ t ac6 D9 es (⟨rfl,rfl⟩|h) hn hs
  .exact .inr (.one t hn hs)
  .exact .inr (h.snoc t hn hs)) hJq (fun Bw w₂ h=>hJ Bw w₂ (h.elim (fun e=>by rw[e.1,e.2];exact S1) fun h=>path h S1)) hX hM (.inl ⟨rfl,rfl⟩) S ρ g' w' H
 obtain⟨N,C6,a',w₁,C8,El,GY,F1,hr,_,h0,B5,hL,hP,hH,hSh,hDn⟩:=S2 hR (sumTo gs.size q) w' gs sl t q (Zj _) (D_.refl _ _) X.main X.old X.past X.held X.bE;have agC:Ctx P F1 a' w₁ C6 El GY Shun:=⟨h0,hL,hP,hH,hSh⟩;rcases B5 with B5|⟨agD,Bw,w₂,Iq,Iy,KE,anb⟩
 .exact⟨N,C6,C8,El,GY,Shun,F1,a',w₁,hr,B5,agC,hDn⟩
 .obtain⟨M0,Jn,DU,qB,UO,vQ,vP,σ,ac6,D9,agE,qh,FR,aa2,anc,ane,bF⟩:=SP F1 agD Bw (tp w₂ Iq) a' w₁ C6 C8 El GY Shun KE ((Iy.elim (fun⟨e1,e2⟩=>by rw[e1,e2];exact hM) (hM.path K9)).Dz K.blind Iq) anb agC
  have qC:CP P' B m g w ac6 D9:=by
   rcases Iy with⟨rfl,rfl⟩|h
   .exact aa2.Dz
   .exact h.trans aa2.Dz
  obtain⟨lY,bG,bH,qD,vR,vS,anf,agF,agG,S3,ac7,ang,agH⟩:=hp ac6 D9 qC (path qC S1) vP σ agE qh Jn DU qB UO vQ anc ane;refine⟨N+(M0+lY),bG,bH,qD,vR,vS,anf,agF,agG,?_,ac7,ang,(hDn.trans bF).trans agH⟩;rw[runNT_add _ _ _ _ _ _ hr,runNT_add _ _ _ _ _ _ FR];exact S3
end
end Go.FO
namespace Go.FO
open Go Go.Conc
structure Cx (w w':Zc):Prop where
 size:w'.heap.size=w.heap.size
 same:∀(b:Nat) (c:Array Ze) (e:Zr) (f:Nat×Nat),w'.heap[b]?=some (ZbM c e f)↔w.heap[b]?=some (ZbM c e f)
def Cx.refl (w:Zc):Cx w w:=⟨rfl,fun _ _ _ _=>Iff.rfl⟩
def Cx.trans {a b c:Zc}(h:Cx a b)(k:Cx b c):Cx a c:=⟨k.size.trans h.size,fun x y z u=>(k.same x y z u).trans (h.same x y z u)⟩
structure S4 (P':Zp)(ρ:Ren)(fr:ZT):Prop where
 fn:∃f,P'.funcs[fr.fn]?=some f
 defers:∀d∈fr.defers,∃b b' a,ρ b=some b'/\d= {target:=.collected b,args:=a}
def DW (ρ:Ren)(w:Zc):Prop:=∀b b',ρ b=some b'->∀ds,w.heap[b]?=some (.deferred (some ds))->ds=[]
section
variable {P' P:Zp}{B:Ik}{m:Bool}{Stop:Zi->Zc->Prop}{ρ:Ren}
variable {w w₂ w₁ w':Zc}
variable {b c n:Nat}
def NZ {ds:List Deferred}(h:w.heap[b]?=some (.deferred (some ds))):
  (YF b).runT P' w #[]=(.ok ds {w with heap:=w.heap.setIfInBounds b (.deferred none)},#[⟨.obj b,false,false⟩,⟨.obj b,true,false⟩]):=by
 unfold YF;simp[-zk,bind,Zcd,getObj,setObj,ZM,h,pure,Obj.isChan]
def Pk (h:∀ds,w.heap[b]?≠some (.deferred (some ds))):∃x u es,(YF b).runT P' w #[]=(.halt x u,es):=by
 unfold YF;cases ho:w.heap[b]? with
 |none=>exact⟨_,_,_,by simp[-zk,bind,Zcd,getObj,ZM,ho];exact⟨⟨rfl,rfl⟩,rfl⟩⟩
 |some o=>
  cases o with
  |deferred d=>
   cases d with
   |some ds=>exact absurd ho (h ds)
   |none=>exact⟨_,_,_,by simp[-zk,bind,Zcd,getObj,ZM,ho,stuck];exact⟨⟨rfl,rfl⟩,rfl⟩⟩
  |_=>exact⟨_,_,_,by simp[-zk,bind,Zcd,getObj,ZM,ho,stuck];exact⟨⟨rfl,rfl⟩,rfl⟩⟩
variable {g Bw AG:Zi}
variable {es:Array zc}
def CE.one (K9:∀g w t,Stop g w->¬BZ B g->S0 P' m g (tp w t))(t:Tape)(h:CE P' B m Stop g w)(hn:¬BZ B g)(hs:zd P' m g (tp w t)=.go AG w₁ es):CE P' B m Stop AG w₁:=
 h.path K9 (.one t hn hs)
def raise_mode (c:ZT)(x:List zn):∃y,(c.raise x).mode=.panicking (x++y)/\c.raise x= {c with mode:=.panicking (x++y)}:=by
 obtain⟨fn,tmps,todo,defers,mode,kind,ro⟩:=c;cases mode with
 |run=>exact⟨[],by simp[Za0],by simp[Za0]⟩
 |returning=>exact⟨[],by simp[Za0],by simp[Za0]⟩
 |panicking z=>exact⟨z,by simp[Za0],by simp[Za0]⟩
variable {fr:ZT}
variable {cs cs':List ZT}
def Gi {x:List zn}(h:fr.mode=.panicking x):¬BZ B (AV fr cs):=by
 rintro(⟨_,_,h1,_⟩|⟨_,_,h1,_⟩)<;>(have h2:fr.mode=_:=h1;rw[h]at h2;cases h2)
def bI (K:Dq P' B m Stop)(K9:∀g w t,Stop g w->¬BZ B g->S0 P' m g (tp w t))(hl:B.lcs=[De P'])(jO:∀(fr:ZT) cs w x,fr.mode=.panicking x->cs≠ []->¬Stop (AV fr cs) w):∀(L:List ZT) (fr:ZT) (w:Zc) (x:List zn),fr.mode=.panicking x->S4 P' ρ fr->(∀c∈L,S4 P' ρ c)->DW ρ w->
  CE P' B m Stop (AV fr (L++ [De P'])) w->∃w' y,Cx w w'/\Stop (AV ((De P').raise (x++y)) []) w':=by
 intro L
 induction L with
 |nil=>?_
 |cons c L ih=>?_
 all_goals
  intro fr;obtain⟨fn,tmps,todo,defers,mode,kind,ro⟩:=fr
  induction defers with
  |nil=>?_
  |cons d ds ihd=>?_
 case nil.nil=>
  intro w x hm hf _ _ hM;dsimp only at hm;subst hm;obtain⟨f,G7⟩:=hf.fn;have hs:∀u,zd P' m (AV {fn:=fn,tmps:=tmps,todo:=todo,defers:=[],mode:=.panicking x,kind:=kind,roundOf:=ro} ([]++ [De P'])) u=.go (AV ((De P').raise x) []) u #[]:=fun u=>by
   rw[BM.2 (by intro h;cases h)];exact Dd rfl rfl G7
  have hM':=hM.one K9 w.tape (Gi rfl) (hs _);exact⟨w,[],Cx.refl w,by rw[Zap];exact hM'.yZ K (.inr ⟨_,_,_,hl,rfl⟩)⟩
 case cons.nil=>
  intro w x hm hf hL hD hM;dsimp only at hm;subst hm;obtain⟨f,G7⟩:=hf.fn;have hs:∀u,zd P' m (AV {fn:=fn,tmps:=tmps,todo:=todo,defers:=[],mode:=.panicking x,kind:=kind,roundOf:=ro} ((c::L)++ [De P'])) u=.go (AV (c.raise x) (L++ [De P'])) u #[]:=fun u=>by
   rw[BM.2 (by intro h;cases h)];exact Dd rfl rfl G7
  have hM':=hM.one K9 w.tape (Gi rfl) (hs _);obtain⟨y,h1,h2⟩:=raise_mode c x;have hc:=hL c (by simp);obtain⟨w',z,h3,h4⟩:=ih (c.raise x) w (x++y) h1 (by rw[h2];exact⟨hc.fn,hc.defers⟩) (fun c' Pl=>hL c' (by simp[Pl])) hD hM';exact⟨w',y++z,h3,by rw[<-Zah];exact h4⟩
 all_goals
  intro w x hm hf hL hD hM;dsimp only at hm;subst hm;obtain⟨b,b',a,hb,rfl⟩:=hf.defers d (by simp);by_cases hds:∃l,w.heap[b]?=some (.deferred (some l))
  .obtain⟨l,Kt⟩:=hds
   obtain rfl:=hD b b' hb l Kt;refine(?_:∃w' y,Cx w w'/\Stop (AV ((De P').raise (x++y)) []) w');have BD:=NZ (P':=P') Kt;have hM':=hM.one K9 w.tape (Gi rfl) (by
    rw[BM.2 (by intro h;cases h)];exact Ew rfl BD)
   have agK:b<w.heap.size:=(Za.1 Kt).1;have hcs:Cx w {w with heap:=w.heap.setIfInBounds b (.deferred none)}:=by
    refine⟨by simp,fun k c e f=>?_⟩;by_cases hk:b=k
    .subst hk
     rw[Kt];simp[agK]
    .simp[Zk hk]
   have hD':DW ρ {w with heap:=w.heap.setIfInBounds b (.deferred none)}:=by
    intro k k' hk l WY;by_cases he:b=k
    .subst he
     simp[agK]at WY
    .exact hD k k' hk l (by simpa[Zk he]using WY)
   obtain⟨w',y,h3,h4⟩:=ihd {w with heap:=w.heap.setIfInBounds b (.deferred none)} x rfl ⟨hf.fn,fun d hd=>hf.defers d (by simp at hd⊢;exact .inr hd)⟩ hL hD' hM';exact⟨w',y,hcs.trans h3,h4⟩
  .exfalso
   obtain⟨e,u,es,BD⟩:=Pk (P':=P') (w:=w) (b:=b) (fun ds hx=>hds ⟨ds,hx⟩);cases hM with
   |stop h=>
    exact jO _ _ _ x rfl (by simp) h
   |step hn _ AG w₁ atO h k=>
    obtain⟨o,u2,e3,he⟩:=D8 (Q:=P') (m:=m) (fr:= {fn:=fn,tmps:=tmps,todo:=todo,defers:= {target:=.collected b,args:=a}::ds,mode:=.panicking x,kind:=kind,roundOf:=ro}) (cs:=_) rfl BD;have:=h w.tape;rw[BM.2 (by intro h;cases h)]at this;exact absurd this (by rw[show tp w w.tape=w from rfl,he];intro h;cases h)
end
end Go.FO
namespace Go.FO
open Go
def Zv (v:Ze):Prop:=∀ρ:Ren,VR ρ v v
def fL {cs:Array Ze}(h:∀x∈cs,Zv x):Zv (.agg cs):=fun ρ=>.agg rfl fun i v v' hv Vm=>by
 rw[hv]at Vm;cases Vm;exact h v (zC hv) ρ
variable {x v:Ze}
def bJ (h:Zv v):∀x∈v.cells,Zv x:=by
 intro x hx ρ;have hr:=h ρ;cases v with
 |agg cs=>
  have hx:x∈cs:=hx;obtain⟨i,hi⟩:=Array.mem_iff_getElem?.1 hx;cases hr with
  |agg hc KB=>exact KB i x x hi hi
 |_=>
  have hx:x∈#[_]:=hx;rw[Array.mem_singleton]at hx;subst hx;exact hr
variable {α:Type}
def lZ {σ:Type}{I:σ->Prop}{f:α->σ->Option (ForInStep σ)}(hf:∀x s r,I s->f x s=some r->I r.value):∀(l:List α) (s r:σ),I s->forIn l s f=some r->I r:=by
 intro l
 induction l with
 |nil=>intro s r hs h;cases h;exact hs
 |cons x l ih=>
  intro s r hs h;rw[List.forIn_cons]at h;simp only[bind,Z6]at h;obtain⟨q,hq,h⟩:=h;have:=hf x s q hs hq;cases q with
  |done b=>cases h;exact this
  |yield b=>exact ih b r this h
variable {i:TypeInfo}
def bK {info:Zr->Option TypeInfo}(hi:∀t i v,info t=some i->i.zero=some v->Zv v){fs:Array Field}(h:Made.reckonStruct info fs=some i)(hv:i.zero=some v):Zv v:=by
 unfold Made.reckonStruct at h;simp only[bind,Z6,pure]at h;obtain⟨a,ha,h⟩:=h;rw[<-Zai]at ha;have hI:=lZ (I:=fun s:Array Field×Nat×Nat×Nat×Nat×Bool×Bool×Option (Array Ze)×String=>∀z,s.2.2.2.2.2.2.2.1=some z->∀x∈z,Zv x) (fun f s r hs h=>?_) _ _ _ (fun z hz=>by cases hz;intro x hx;simp at hx) ha
 .have hz:∀z,i.zero=some z->∃cs,a.2.2.2.2.2.2.2.1=some cs/\z=.agg cs:=by
   intro z hz;split at h<;>(cases h;simpa[eq_comm]using hz)
  obtain⟨cs,h1,rfl⟩:=hz v hv;exact fL (hI cs h1)
 .obtain⟨j,hj,h⟩:=Z6.1 h
  have key:∀z,(s.2.2.2.2.2.2.2.1.bind fun a=>j.zero.bind fun b=>some (a++b.cells))=some z->∀x∈z,Zv x:=by
   intro z hz;obtain⟨a,ha,hz⟩:=Z6.1 hz;obtain⟨b,hb,hz⟩:=Z6.1 hz;cases hz;intro x hx;rcases ZaN.1 hx with hx|hx
   .exact hs a ha x hx
   .exact bJ (hi _ _ _ hj hb) x hx
  repeat' split at h
  all_goals simp only[Z6,ZN,reduceCtorEq,false_and,exists_const,and_false]at h
  all_goals first
   |exact h.elim
   |(obtain⟨_,_,h⟩:=h
     subst h
     first
      |exact fun z hz=>key z hz
      |exact fun z hz=>by cases hz)
def l_ {info:Zr->Option TypeInfo}(hi:∀t i v,info t=some i->i.zero=some v->Zv v){d:TypeDesc}(h:Made.reckon info d=some i)(hv:i.zero=some v):Zv v:=by
 unfold Made.reckon at h;cases d with
 |struct fs=>exact bK hi h hv
 |pointer e=>
  simp only[bind,Z6]at h;obtain⟨j,hj,h⟩:=h;have:v=.pointer none:=by
   repeat' split at h
   all_goals simp only[pure,Z6,ZN,reduceCtorEq]at h
   all_goals first
    |(obtain⟨_,_,h⟩:=h;subst h;simpa[Zcu,eq_comm]using hv)
    |exact h.elim
  subst this;exact fun ρ=>.pointer trivial
 |slice e=>
  simp only[bind,pure,Z6,ZN]at h;obtain⟨_,_,_,_,h⟩:=h;subst h;simp only[Zcu,ZN]at hv;subst hv;exact fun ρ=>.slice 0 0 trivial
 |map k e=>
  simp only[bind,pure,Z6,ZN]at h;obtain⟨_,_,_,_,_,_,_,_,h⟩:=h;subst h;simp only[Zcu,ZN]at hv;subst hv;exact fun ρ=>.map trivial
 |chan dir e=>
  simp only[bind,pure,Z6,ZN]at h;obtain⟨_,_,_,_,h⟩:=h;subst h;simp only[Zcu,ZN]at hv;subst hv;exact fun ρ=>.chan trivial
 |func ps rs va=>
  simp only[bind,pure,Z6,ZN]at h;obtain⟨_,_,h⟩:=h;subst h;simp only[Zcu,ZN]at hv;subst hv;exact fun ρ=>.nilFunc
 |array n e=>
  simp only[bind,pure,Z6,ZN]at h;obtain⟨j,hj,_,_,h⟩:=h;subst h;dsimp only at hv;split at hv
  .cases hv
  .split at hv
   .cases hv
    exact fL fun x hx=>by simp at hx
   .rw[zf]at hv
    obtain⟨z,hz,rfl⟩:=hv;refine fL fun x hx=>?_;rw[Array.mem_flatten]at hx;obtain⟨cs,hcs,hx⟩:=hx;rw[Array.mem_replicate]at hcs;rw[hcs.2]at hx;exact bJ (hi _ _ _ hj hz) x hx
 |_=>cases h
variable {T:Tables}
def bL (hz:∀(t:Nat) (i:TypeInfo) (v:Ze),T.types[t]?=some i->i.zero=some v->Zv v):∀(n:Nat) t i v,Made.infoAt T n t=some i->i.zero=some v->Zv v:=by
 intro n
 induction n with
 |zero=>intro t i v h;cases h
 |succ n ih=>
  intro t i v h hv;unfold Made.infoAt at h;split at h
  .exact hz _ _ _ h hv
  .obtain⟨d,_,h⟩:=Z6.1 h
   exact l_ ih h hv
def me (hz:∀(t:Nat) (i:TypeInfo) (v:Ze),T.types[t]?=some i->i.zero=some v->Zv v)(t:Zr)(i:TypeInfo)(v:Ze)(h:T.info? t=some i)(hv:i.zero=some v):Zv v:=by
 unfold Tables.info? at h;split at h
 .exact hz _ _ _ h hv
 .exact bL hz _ _ _ _ h hv
def bM {P' P:Zp}(ht:P'.toTables=P.toTables)(hz:P.types.all (fun i=>i.zero.all (Qm 8))=true)(hl:(P.info? 0).all (fun i=>(i.methods.find? (fun m=>m.name== "")).isNone)=true):Twins P' P where
 tables:=ht
 lack i hi:=by
  rw[hi]at hl;simpa using hl
 zero t i v hi hv:=me (T:=P.toTables) (fun t i v h hv ρ=>by
  have hm:=z8.1 hz i (zC h);rw[hv]at hm;exact LX 8 hm) t i v hi hv
open Classical in
def I3:Obj->Obj
 | .cells c e f=>.cells c e (min 0 f.1,max c.size f.2)
 |o=>if Qe o=true then .coro none else o
def bO (w:Zc):Zc:= {w with heap:=w.heap.map I3}
def Rz (w:Zc)(b:Nat):(bO w).heap[b]?=(w.heap[b]?).map I3:=by
 unfold bO;simp
def qE (w:Zc):(bO w).heap.size=w.heap.size:=by
 unfold bO;simp
variable {w w₂ w₁ w':Zc}
variable {b c n:Nat}
def fM {t:Zr}(h:w.shape? b=some (t,n)):CF (bO w) b:=by
 unfold Yx at h;cases ho:w.heap[b]? with
 |none=>rw[ho]at h;cases h
 |some o=>
  rw[ho]at h;cases o with
  |cells c e f=>
   have hg:(bO w).heap[b]?=some (.cells c e (min 0 f.1,max c.size f.2)):=by rw[Rz,ho];rfl
   refine⟨e,c.size,by unfold Yx;rw[hg],fun off anh=>?_⟩;clear h;unfold Yy;rw[hg];simp;omega
  |_=>cases h
variable {σ ρ τ:Ren}
def qF (h:WR ρ w w')(hb:ρ b=some c):CF (bO w) b\/∃o,Quiet o/\(bO w).heap[b]?=some o:=by
 obtain⟨o,o',h1,h2,h3⟩:=h.obj b c hb;have hg:(bO w).heap[b]?=some (I3 o):=by rw[Rz,h1];rfl
 cases h3 with
 | @cells c c' e f f' hv hf=>exact .inl (fM (t:=e) (n:=c.size) (by unfold Yx;rw[h1]))
 |number lost h=>exact .inr ⟨_,.number _ _,hg⟩
 |junk h=>exact .inr ⟨_,.coro,hg⟩
 |_=>exact .inr ⟨_,.coro,hg⟩
def qG (w:Zc)(a:Addr):(bO w).cell? a=w.cell? a:=by
 unfold zG;rw[Rz];cases w.heap[a.block]? with
 |none=>rfl
 |some o=>cases o<;>first|rfl|(show(match some (I3 _) with|some (.cells c _ _)=>_|_=>none)=_;unfold I3;split<;>rfl)
def EX (w:Zc)(o:Obj):Zc:= {w with heap:=w.heap.push o}
def Iz (w:Zc)(o:Obj)(h:b<w.heap.size):(EX w o).heap[b]?=w.heap[b]? :=by
 unfold EX;simp only;rw[Zd2 h,ZC h]
def IA (w:Zc)(o:Obj):(EX w o).heap[w.heap.size]?=some o:=by
 unfold EX;simp
def WZ (w:Zc)(o:Obj):(EX w o).heap.size=w.heap.size+1:=by
 unfold EX;simp
def W_ (h:WR ρ w w')(hc:ρ.QV w.heap.size c):ρ.le (ρ.ext w.heap.size c hc):=by
 refine⟨fun b d hb=>?_,rfl,rfl,rfl⟩;have:=(h.lt hb).1;show(if b=w.heap.size then some c else ρ b)=some d;rw[if_neg (by omega)];exact hb
variable {o:Obj}
def WR.push (h:WR ρ w w')(hc:ρ.QV w.heap.size c){o':Obj}(aM:w'.heap[c]?=some o')(hO:OR (ρ.ext w.heap.size c hc) o o'):WR (ρ.ext w.heap.size c hc) (EX w o) w':=by
 refine⟨fun b d hb=>?_,h.os⟩;have GZ:(if b=w.heap.size then some c else ρ b)=some d:=hb;split at GZ
 .next e=>
  cases GZ;subst e;exact⟨o,o',IA w o,aM,hO⟩
 .obtain⟨p,p',h1,h2,h3⟩:=h.obj b d GZ
  exact⟨p,p',by rw[Iz w o (h.lt GZ).1];exact h1,h2,h3.mono (W_ h hc)⟩
def bP (h:CF w b):CF (EX w o) b:=by
 have AA:=h.lt;have he:=Iz w o AA;obtain⟨t,n,h1,h2⟩:=h;refine⟨t,n,?_,fun off ho=>?_⟩
 .unfold Yx at*
  rw[he];exact h1
 .have:=h2 off ho
  unfold Yy at*;rw[he];exact this
end Go.FO
namespace Go.FO
open Go Go.Conc
section
variable {P':Zp}{B:Ik}{Stop:Zi->Zc->Prop}
structure Pm (P':Zp)(B:Ik)(Stop:Zi->Zc->Prop):Prop where
 fin:∀g w,Stop g w->BZ B g->g.status=.running/\∃v es,∀u,zd P' true g u=.go (AV ((De P').finish v) []) u es
 out:∀g w,Stop g w->¬BZ B g->∃fr,g=AV fr []/\∀u,∃o u' e,zd P' true g u=.ended o u' e
def Pm.K9 (K:Pm P' B Stop):∀g w t,Stop g w->¬BZ B g->S0 P' true g (tp w t):=fun g w t h hn=>
 let⟨_,_,h⟩:=K.out g w h hn
 I0 (h (tp w t))
variable {g Bw AG:Zi}
variable {w w₂ w₁ w':Zc}
def S5 {g':Zi}(h:solo g w=solo g' w'):g=g'/\w=w':=by
 unfold solo at h;simp at h;exact⟨h.2,h.1⟩
def I4 (K:Pm P' B Stop){ge:Zi}{we:Zc}(h2:∀v,ge≠AV ((De P').finish v) []):∀(N:Nat) (g:Zi) (w:Zc),CE P' B true Stop g w->runN P' N (solo g w)=.next (solo ge we)->(g=ge/\w=we)\/CP P' B true g w ge we:=by
 intro N
 induction N with
 |zero=>
  intro g w _ h;exact .inl (S5 (by simpa[runN]using h))
 |succ N ih=>
  intro g w hM h;cases hM with
  |stop hs=>
   by_cases ha:BZ B g
   .obtain⟨hr,v,es,hgo⟩:=K.fin g w hs ha
    have Bm:=step_solo_go hr (hgo w);have h':runN P' N (lone ((De P').finish v) [] w)=.next (solo ge we):=by
     have:=h;simp only[runN,Bm]at this;exact this
    have h3:=runN_ended (E4 H0) h';exact absurd (S5 (show solo (AV ((De P').finish v) []) w=solo ge we from h3)).1.symm (h2 v)
   .obtain⟨fr,rfl,he⟩:=K.out g w hs ha
    have h':runN P' (N+1) (lone fr [] w)=.next (solo ge we):=h;have h3:=runN_ended (E4 (he w)) h';exact .inl (S5 (show solo (AV fr []) w=solo ge we from h3))
  |step hn hr AG w₁ es h' k=>
   have hgo:zd P' true g w=.go (AG w.tape) (w₁ w.tape) (es w.tape):=h' w.tape;have Bm:=step_solo_go hr hgo;have h3:runN P' N (solo (AG w.tape) (w₁ w.tape))=.next (solo ge we):=by
    have:=h;simp only[runN,Bm]at this;exact this
   rcases ih _ _ (k w.tape) h3 with⟨e1,e2⟩|hp
   .refine .inr ?_
    rw[<-e1, <-e2];exact .one w.tape hn (h' w.tape)
   .exact .inr (.cons w.tape hn (h' w.tape) hp)
variable {f:ZaV}
variable {args:Array Ze}
variable {cs cs':List ZT}
variable {Post:Ze->Zc->Prop}
def S6 (K:Pm P' B Stop){c:ZT}{PostX:List zn->Zc->Prop}(hc:cs≠ [])(hM:CE P' B true Stop (AV (Zq P' f args .normal) (c::cs)) w)(h:Calls P' f args w (jL Post PostX)):
  (∃v w₁,Post v w₁/\CP P' B true (AV (Zq P' f args .normal) (c::cs)) w (AV (c.finish v) cs) w₁)\/∃x w₁,PostX x w₁/\CP P' B true (AV (Zq P' f args .normal) (c::cs)) w (AV (c.raise x) cs) w₁:=by
 have Bn:∀(g:Zi) fr,g=AV fr cs->AV (Zq P' f args .normal) (c::cs)≠g:=by
  rintro _ fr rfl hx;have:=congrArg (fun g:Zi=>g.callers.length) hx;simp[AV]at this
 obtain⟨e,w',fr,hR,vO,_,hlv⟩:=h (c::cs);cases e with
 |returned v=>
  obtain⟨N,hN⟩:=Steps.trans (show Steps P' _ _ from vO) (Steps.one (step_leave_returned hlv));refine .inl ⟨v,w',hR,?_⟩;have k2:∀v',AV (c.finish v) cs≠AV ((De P').finish v') []:=fun v' hx=>hc (congrArg ZaU hx);rcases I4 K k2 N _ _ hM hN with⟨e1,_⟩|hp
  .exact absurd e1 (Bn _ _ rfl)
  .exact hp
 |panicked x=>
  obtain⟨N,hN⟩:=Steps.trans (show Steps P' _ _ from vO) (Steps.one (step_leave_panicked hlv));refine .inr ⟨x,w',hR,?_⟩;have k2:∀v',AV (c.raise x) cs≠AV ((De P').finish v') []:=fun v' hx=>hc (congrArg ZaU hx);rcases I4 K k2 N _ _ hM hN with⟨e1,_⟩|hp
  .exact absurd e1 (Bn _ _ rfl)
  .exact hp
 |outgrown=>exact hR.elim
end
variable {σ ρ τ:Ren}
def AR.fun {a x y:Addr}(h:AR σ a x)(k:AR σ a y):x=y:=by
 obtain⟨h1,h2,h3⟩:=h;obtain⟨k1,k2,k3⟩:=k;rw[h1]at k1;obtain⟨xb,xo,xs⟩:=x;obtain⟨yb,yo,ys⟩:=y;simp only[ZN]at k1;dsimp only at h2 h3 k2 k3;subst h2 h3 k2 k3 k1
 rfl
variable {a:Option Addr}
def O1.fun {x y:Option Addr}(h:O1 σ a x)(k:O1 σ a y):x=y:=by
 cases a<;>cases x<;>cases y<;>first|exact h.elim|exact k.elim|rfl|exact congrArg some (AR.fun h k)
variable {b c n:Nat}
variable {x v:Ze}
def VR.Pn {y:Ze}(h:VR σ (.slice a n c) x)(k:VR σ (.slice a n c) y):x=y:=by
 cases h with
 |slice _ _ h=>cases k with
  |slice _ _ k=>rw[O1.fun h k]
structure Ren.sub (ρ τ:Ren):Prop where
 map:∀b c,ρ b=some c->τ b=some c
 val:∀f,ρ.ok f=true->τ.ok f=true
def AR.sub (s:ρ.sub τ){a x:Addr}(h:AR ρ a x):AR τ a x:=⟨s.map _ _ h.1,h.2⟩
def O1.sub (s:ρ.sub τ){x:Option Addr}(h:O1 ρ a x):O1 τ a x:=by
 cases a<;>cases x<;>first|exact h.elim|trivial|exact AR.sub s h
def Sm.sub (s:ρ.sub τ){a x:Option Nat}(h:Sm ρ a x):Sm τ a x:=by
 cases a<;>cases x<;>first|exact h.elim|trivial|exact s.map _ _ h
def pF.sub (s:ρ.sub τ){a x:Fn}(h:pF ρ a x):pF τ a x:=by
 cases h with
 |func h=>exact .func (s.val _ h)
 |yield h=>exact .yield (s.map _ _ h)
def VR.sub {ρ τ:Ren}(s:ρ.sub τ){v x:Ze}(h:VR ρ v x):VR τ v x:=by
 induction h with
 |bool b=>exact .bool b
 |int i n=>exact .int i n
 |string t=>exact .string t
 |pointer h=>exact .pointer (h.sub s)
 |slice n c h=>exact .slice n c (h.sub s)
 |map h=>exact .map (h.sub s)
 |chan h=>exact .chan (h.sub s)
 |func h ha _ hc _ iha ihc=>exact .func (h.sub s) ha iha hc ihc
 |nilFunc=>exact .nilFunc
 |iface t _ ih=>exact .iface t ih
 |nilIface=>exact .nilIface
 |agg hc _ ih=>exact .agg hc ih
 |tuple hc _ ih=>exact .tuple hc ih
 |EK h=>exact .EK h
 |meth n f c=>exact .meth n f c
def B1.sub (s:ρ.sub τ){a x:Array Ze}(h:B1 ρ a x):B1 τ a x:=⟨h.1,fun i v y h1 h2=>(h.2 i v y h1 h2).sub s⟩
structure Ren.Gs (ρ τ:Ren):Prop where
 map:∀b c,ρ b=some c->τ c=some c
 val:∀f,ρ.ok f=true->τ.ok f=true
def AR.Gs (s:ρ.Gs τ){a x:Addr}(h:AR ρ a x):AR τ x x:=⟨s.map _ _ h.1,rfl,rfl⟩
def O1.Gs (s:ρ.Gs τ){x:Option Addr}(h:O1 ρ a x):O1 τ x x:=by
 cases a<;>cases x<;>first|exact h.elim|trivial|exact AR.Gs s h
def Sm.Gs (s:ρ.Gs τ){a x:Option Nat}(h:Sm ρ a x):Sm τ x x:=by
 cases a<;>cases x<;>first|exact h.elim|trivial|exact s.map _ _ h
def La {b:Array Ze}(h:∀(i:Nat) x,b[i]?=some x->∃bu,VR τ bu x):∃fN:Array Ze,B1 τ fN b:=by
 have h':∀i:Fin b.size,∃bu,VR τ bu b[i]:=fun i=>h i b[i] (ZC i.2);refine⟨Array.ofFn fun i:Fin b.size=>zu (h' i),by simp,fun i v x h1 h2=>?_⟩;obtain⟨hi,rfl⟩:=Za.1 h2;obtain⟨_,rfl⟩:=Za.1 h1;rw[Array.getElem_ofFn];exact zA (h' ⟨i,hi⟩)
def Lb {a:Array Ze}{b:Array Ze}{p:Ze->Prop}(hs:a.size=b.size)(h:∀(i:Nat) v x,a[i]?=some v->b[i]?=some x->p x):∀(i:Nat) x,b[i]?=some x->p x:=by
 intro i x hx;have hi:i<a.size:=by have:=(Za.1 hx).1;omega
 exact h i _ x (ZC hi) hx
def VR.Gs {ρ τ:Ren}(s:ρ.Gs τ){v x:Ze}(h:VR ρ v x):∃bu,VR τ bu x:=by
 induction h with
 |bool b=>exact⟨_,.bool b⟩
 |int i n=>exact⟨_,.int i n⟩
 |string t=>exact⟨_,.string t⟩
 |pointer h=>exact⟨_,.pointer (h.Gs s)⟩
 |slice n c h=>exact⟨_,.slice n c (h.Gs s)⟩
 |map h=>exact⟨_,.map (h.Gs s)⟩
 |chan h=>exact⟨_,.chan (h.Gs s)⟩
 |func h ha _ hc _ iha ihc=>
  obtain⟨fN,h1⟩:=La (Lb ha iha);obtain⟨c₁,h2⟩:=La (Lb hc ihc);cases h with
  |func h=>exact⟨_,.aL (.func (s.val _ h)) h1 h2⟩
  |yield h=>exact⟨_,.aL (.yield (s.map _ _ h)) h1 h2⟩
 |nilFunc=>exact⟨_,.nilFunc⟩
 |iface t _ ih=>exact⟨_,.iface t ih.choose_spec⟩
 |nilIface=>exact⟨_,.nilIface⟩
 |agg hc _ ih=>
  obtain⟨c₁,h2⟩:=La (Lb hc ih);exact⟨_,.QW h2⟩
 |tuple hc _ ih=>
  obtain⟨c₁,h2⟩:=La (Lb hc ih);exact⟨_,.tuple' h2⟩
 |EK h=>exact⟨_,.EK h⟩
 |meth n f c=>exact⟨_,.meth n f c⟩
def VR.M1 (s:ρ.Gs τ)(h:VR ρ (.slice a n c) x):VR τ x x:=by
 cases h with
 |slice n c h=>exact .slice n c (h.Gs s)
open Classical in
def canon (τ:Ren)(x:Ze):Ze:=if VR τ x x then x else if h:∃v,VR τ v x then zu h else Zf
def Po (h:∃v,VR τ v x):VR τ (canon τ x) x:=by
 unfold canon;split
 .assumption
 .exact zA h
def fO (h:VR τ x x):canon τ x=x:=if_pos h
def Dw (τ:Ren):Obj->Obj
 | .cells c e f=>.cells (c.map (canon τ)) e (min 0 f.1,max c.size f.2)
 |o=>if Qe o=true then .coro none else o
def snap (τ:Ren)(w:Zc):Zc:= {w with heap:=w.heap.map (Dw τ)}
def N9 (τ:Ren)(w:Zc)(b:Nat):(snap τ w).heap[b]?=(w.heap[b]?).map (Dw τ):=by
 unfold snap;simp
def LZ (τ:Ren)(w:Zc):(snap τ w).heap.size=w.heap.size:=by
 unfold snap;simp
variable {o:Obj}
def bQ (h:Qe o=true):Dw τ o=.coro none:=by
 cases o<;>first|(cases h;done)|(unfold Dw;exact if_pos rfl)
def fP (h:Qe o=true):I3 o=.coro none:=by
 cases o<;>first|(cases h;done)|(unfold I3;exact if_pos rfl)
def RA (n:Nat)(f:Nat×Nat):FzR (min 0 f.1,max n f.2) f:=.inr (.inr ⟨by simp,Nat.le_max_right _ _⟩)
def OR.Gs {ρ τ:Ren}(s:ρ.Gs τ){o x:Obj}(h:OR ρ o x):OR τ (Dw τ x) x:=by
 have box:Qe x=true->OR τ (Dw τ x) x:=fun hb=>by rw[bQ hb];exact .junk hb
 cases h with
 | @cells c c' e f f' hv hf=>
  refine .cells e ⟨by simp,fun i v y h1 h2=>?_⟩ (RA _ _);rw[zN,h2]at h1;cases h1;refine Po (Lb (p:=fun x=>∃v,VR τ v x) hv.1 (fun i v x h1 h2=>(hv.2 i v x h1 h2).Gs s) i y h2)
 |number l h=>exact .number l (AR.Gs s h)
 |junk h=>exact box h
 |_=>exact box rfl
variable {w w₂ w₁ w':Zc}
def VC (h:w.heap[b]?=some o)(hO:OR τ (Dw τ o) o):CF (snap τ w) b\/∃q,Quiet q/\(snap τ w).heap[b]?=some q:=by
 have hg:(snap τ w).heap[b]?=some (Dw τ o):=by rw[N9,h];rfl
 cases o with
 |cells c e f=>
  refine .inl ⟨e,(c.map (canon τ)).size,by unfold Yx;rw[hg];rfl,fun off ho=>?_⟩;unfold Yy;rw[hg];simp[Dw]at ho⊢;omega
 |number a l=>exact .inr ⟨_,.number a l,hg⟩
 |pending _ _=>cases hO
 |view _ _=>cases hO
 |_=>exact .inr ⟨_,.coro,hg⟩
def Jo {a:Addr}(h:w.cell? a=some v)(hv:VR τ v v):(snap τ w).cell? a=some v:=by
 unfold zG at*;rw[N9];cases ho:w.heap[a.block]? with
 |none=>rw[ho]at h;cases h
 |some o=>
  rw[ho]at h;cases o with
  |cells c e f=>
   show(match some (Dw τ (.cells c e f)) with|some (.cells c _ _)=>_|_=>none)=_;simp only[Dw]at*;split at h
   .cases h
   .rw[if_neg ‹_›];rw[zN,h];simp[fO hv]
  |_=>first|(cases h;done)|(exfalso;simp at h;done)
open Classical in
def Ren.Xa (D:Nat->Prop)(ok:Qd)(good:Code->Bool)(sp:ZaV->Bool)(hl:D ok.low):Ren where
 map:=fun b=>if D b then some b else none
 ok:=ok
 good:=good
 sp:=sp
 inj:=by
  intro b vk c h1 h2;split at h1<;>split at h2<;>first|cases h1|cases h2|skip
  all_goals simp_all
 base:=if_pos hl
 sep:=by
  intro b c h;split at h<;>cases h
  rfl
variable {S D:Nat->Prop}
variable {good:Code->Bool}
variable {sp:ZaV->Bool}
open Classical in
def Gt {ok:Qd}{hl:D ok.low}:(Ren.Xa D ok good sp hl) b=some c↔D b/\b=c:=by
 show(if D b then some b else none)=some c↔_;split
 .simp[*]
 .simp[*]
def Pp {ok:Qd}(h:∀b c,ρ b=some c->D c)(hv:∀f,ρ.ok f=true->ok f=true){hl:D ok.low}:ρ.Gs (Ren.Xa D ok good sp hl):=⟨fun b c hb=>Gt.2 ⟨h b c hb,rfl⟩,hv⟩
def qH {ok:Qd}{hl:D ok.low}(h:∀c,D c->∃o,w.heap[c]?=some o/\OR (Ren.Xa D ok good sp hl) (Dw (Ren.Xa D ok good sp hl) o) o):WR (Ren.Xa D ok good sp hl) (snap (Ren.Xa D ok good sp hl) w) w:=by
 refine⟨fun b c hb=>?_,rfl⟩;obtain⟨hD,rfl⟩:=Gt.1 hb;obtain⟨o,h1,h2⟩:=h b hD;exact⟨_,o,by rw[N9,h1];rfl,h1,h2⟩
def Ren.with (ρ:Ren)(ok:Qd)(good:Code->Bool)(sp:ZaV->Bool)(hl:ok.low=ρ.ok.low):Ren:= {ρ with ok:=ok,good:=good,sp:=sp,base:=by rw[hl];exact ρ.base,sep:=by rw[hl];exact ρ.sep}
def S7 {ok:Qd}(h:∀f,ρ.ok f=true->ok f=true){hl:ok.low=ρ.ok.low}:ρ.sub (ρ.with ok good sp hl):=⟨fun _ _ h=>h,h⟩
def OR.S8 {ok:Qd}(hv:∀f,ρ.ok f=true->ok f=true){hl:ok.low=ρ.ok.low}{x:Obj}(h:OR ρ o x):OR (ρ.with ok good sp hl) (I3 o) x:=by
 have s:ρ.sub (ρ.with ok good sp hl):=S7 hv (hl:=hl);have box:Qe o=true->Qe x=true->OR (ρ.with ok good sp hl) (I3 o) x:=fun hb hx=>by rw[fP hb];exact .junk hx
 cases h with
 | @cells c c' e f f' h hf=>
  refine .cells e (B1.sub s h) ?_;rcases hf with rfl|hf|⟨h1,h2⟩
  .exact RA _ _
  .exact .inr (.inl hf)
  .exact .inr (.inr ⟨by simp,Zt h2 (Nat.le_max_right _ _)⟩)
 |number l h=>exact .number l (h.sub s)
 |junk h=>exact box rfl h
 |_=>exact box rfl rfl
def WR.S8 {ok:Qd}(hv:∀f,ρ.ok f=true->ok f=true){hl:ok.low=ρ.ok.low}(h:WR ρ w w'):WR (ρ.with ok good sp hl) (bO w) w':=by
 refine⟨fun b c hb=>?_,h.os⟩;obtain⟨o,o',h1,h2,h3⟩:=h.obj b c hb;exact⟨I3 o,o',by rw[Rz,h1];rfl,h2,h3.S8 hv⟩
section
variable {P' P:Zp}
variable {B:Ik}
variable {g Bw AG:Zi}
variable {t:Tape}
variable {m:Bool}
variable {es:Array zc}
def FL.out (T:Twins P' P)(hd:BW<=P.depth)(hB:B.Mp)(hl:B.lcs=[De P'])(h:FL P' P B g w\/HJ B g\/Q0 B g)(hn:¬BZ B g)(hs:zd P' m g (tp w t)=.go AG w₁ es):FL P' P B AG w₁\/HJ B AG\/Q0 B AG:=by
 rcases h with h|h
 .exact((h.Dz t).step T hd hB hn hs).1
 .exact absurd hs (NW hl h _ _ _)
variable {f:ZaV}
variable {cs cs':List ZT}
variable {Post:Ze->Zc->Prop}
def qI (T:Twins P' P)(hd:BW<=P.depth)(E:Env P' P ρ)(KE:ρ.sp=fun _=>false)(hf:ρ.ok.NI f=true){a a':Array Ze}(ha:B1 ρ a a'){wl:Zc}(hw:WR ρ wl w')
 {c':ZT} (hb:Dk Post) (hc:∀t,Calls P' f a (tp wl t) (jL Post fun _ _=>False))
 (hq:∀(v:Ze) (w:Zc),Post v w->∀(b:Nat) (o:Obj),Quiet o->wl.heap[b]?=some o->w.heap[b]?=some o)
 (S9:∀b c,ρ b=some c->CF wl b\/∃o,Quiet o/\wl.heap[b]?=some o) (hS:∀c,S c↔∃b,ρ b=some c):
  aC P m (fun c=>∃b,ρ b=some c) (fun S g w=>∃σ G8 v v',g=AV (c'.finish v') cs'/\Post v G8/\VR σ v v'/\ρ.le σ/\(∀b c,σ b=some c->ρ b=some c\/(wl.heap.size<=b/\w'.heap.size<=c))/\WR σ G8 w/\∀c,S c↔∃b,σ b=some c) S (AV (Zq P f a' .normal) (c'::cs')) w':=by
 let B:Ik:=⟨.whole,[De P'],c'::cs',false⟩
 have hB:B.Mp:=⟨fun _=>Cut.SQ,by simp[B],fun _=>by simp[B],fun h=>by cases h⟩;have hG:vL P' P B ρ (AV (Zq P' f a .normal) [De P']) (AV (Zq P f a' .normal) (c'::cs')):=
  ⟨_,_,_,_,rfl,rfl,.bot (B:=B) (Hz.enter E hf (by rw[KE]) ha)⟩
 have bR:FL P' P B (AV (Zq P' f a .normal) [De P']) wl:=⟨ρ,_,_,E,hG,hw,KE⟩;have K:Dq P' B true (jH P' Post fun _ _=>False):=br rfl hb (fun _ _ _ x=>x);have hM:=UN T hd hB rfl rfl rfl hb (fun _ _ _ x=>x) bR hc;have fQ:∀(g:Zi) (w:Zc),jH P' Post (fun _ _=>False) g w->∀(b:Nat) (o:Obj),(Quiet o/\wl.heap[b]?=some o)->w.heap[b]?=some o:=by
  rintro g w (⟨v,_,h⟩|⟨x,_,h⟩) b o ⟨h1,h2⟩
  .exact hq v w h b o h1 h2
  .exact h.elim
 have AA:∀(b:Nat) (o:Obj),(Quiet o/\wl.heap[b]?=some o)->b<wl.heap.size:=fun b o h=>(Za.1 h.2).1;have H:NY P' P B (fun b o=>Quiet o/\wl.heap[b]?=some o) ρ wl.heap.size w'.heap.size (fun c=>∃b,ρ b=some c) S ρ (AV (Zq P' f a .normal) [De P']) wl (AV (Zq P f a' .normal) (c'::cs')) w':=
  ⟨E,Ren.le_refl _,fun _ _ h=>.inl h,⟨Zj _,Zj _⟩,.inl hG,hw,fun c ⟨b,KC⟩=>⟨b,KC,(S9 b c KC).imp id fun⟨o,h1,h2⟩=>⟨o,⟨h1,h2⟩,h2⟩⟩,hS⟩
 have hR:=K_ (m':=m) T hd hB K (D:=fun g w=>FL P' P B g w\/HJ B g\/Q0 B g) (fun g w t AG w₁ es h hn hs=>FL.out T hd hB rfl h hn hs) (J:=fun b o=>Quiet o/\wl.heap[b]?=some o) (fun b o h=>⟨h.1,AA b o h⟩)
  (fun g w hD hz hM b o h=>MY T hd hB K (fun b o h=>h.1) fQ hM hD b o h (Zm (AA b o h) hz))
  (fun σ g w _ hl B5=>by
   obtain⟨c,r,x,x',h1,h2,_⟩:=hl;cases h1;rcases B5 with⟨v,h3,_⟩|⟨y,_,h4⟩
   .rw[h2]at h3
    have:=congrArg (fun g:Zi=>g.frame) h3;exact DN this.symm
   .exact h4) hM (.inl bR) S ρ _ _ H
 refine hR.imp fun F1 g w₁ hx=>?_;rcases hx with⟨σ,gl,G8,B5,HH⟩|⟨σ,gl,G8,t,_,hsr,HH⟩
 .rcases B5 with⟨v,rfl,hp⟩|⟨y,_,h4⟩
  .rcases HH.goes with hg|Gj|⟨qJ,_,_,_,_,_,_,_,G9,_⟩
   .exfalso
    obtain⟨jJ,jK,h1,h2⟩:=hg.AV;have:=congrArg (fun g:Zi=>g.callers.length) h1;simp only[AV,Yt]at this;simp only[B,zp,Yt]at h2;omega
   .obtain⟨_,c,r,c₂,axC,bu,yX,h1,h2,h3,h4,h5⟩:=Gj
    cases h1;cases h2;have e:v=bu:=MX (congrArg (fun g:Zi=>g.frame) h4);subst e;exact⟨σ,G8,v,yX,h5,hp,h3,HH.le,HH.fresh,HH.world,HH.holds⟩
   .rw[HH.le.2.2.2,KE]at G9;cases G9
  .exact h4.elim
 .obtain⟨qJ,_,_,_,_,_,_,_,G9,_⟩:=hsr
  rw[HH.le.2.2.2,KE]at G9;cases G9
variable {args:Array Ze}
def EE {Stop:Zi->Zc->Prop}(K:Pm P' B Stop){fn:Func}{i:Nat}(hf:P'.funcs[f]?=some fn)(hr:fn.results= #[.tmp i]){c:ZT}(Kv:B.lcs.length<(c::cs).length)(hM:CE P' B true Stop (AV (Zq P' f args .normal) (c::cs)) w)(h:Calls P' f args w (jL Post fun _ _=>False)):
  ∃v w₁,Post v w₁/\∀t,CP P' B true (AV (Zq P' f args .normal) (c::cs)) w (AV (c.finish v) cs) (tp w₁ t):=by
 obtain⟨e,w',fr,hR,vO,G7,hlv⟩:=h (c::cs);cases e with
 |panicked x=>exact hR.elim
 |outgrown=>exact hR.elim
 |returned v=>
  refine⟨v,w',hR,fun t=>?_⟩;obtain⟨N,hN⟩:=show Steps P' _ _ from vO;have k2:∀v',AV fr (c::cs)≠AV ((De P').finish v') []:=fun v' hx=>by cases congrArg ZaU hx
  have MV:¬BZ B (AV fr (c::cs)):=by
   rintro(⟨_,h1,_⟩|⟨_,h1,_⟩)<;>(have h2:(c::cs).length=B.lcs.length:=h1;omega)
  have aa3:zd P' true (AV fr (c::cs)) (tp w' t)=.go (AV (c.finish v) cs) (tp w' t) (seen P' fr.fn #[]):=by
   obtain⟨hm,hd,hk,Rt,hf',Qg⟩:=hlv;rw[G7,hf]at hf';cases hf';have e1:=results_tmp (P':=P') hr fr.tmps w';have e2:(results fn fr.tmps).run P' w'=.ok (fr.tmps.getD i Zf) w':=by
    have:=congrArg Prod.fst e1;simpa[Sem.run]using this
   rw[e2]at Qg;cases Qg;rw[BM.2 (by rw[hm];intro h;cases h)];exact D4 hd hm hk (by rw[G7];exact hf) (results_tmp hr _ _)
  rcases I4 K k2 N _ _ hM hN with⟨e1,e2⟩|hp
  .have e3:Zq P' f args .normal=fr:=congrArg (fun g:Zi=>g.frame) e1
   rw[e1,e2];exact .one t MV aa3
  .exact hp.snoc t MV aa3
end
variable {α:Type}
def EB.left {β:Type}{R:α->β->Prop}{l:List α}{m:List β}(h:EB R l m){x:α}(hx:x∈l):∃y∈m,R x y:=by
 induction h with
 |nil=>cases hx
 |cons h _ ih=>
  rcases List.mem_cons.1 hx with rfl|hx
  .exact⟨_,zo,h⟩
  .obtain⟨y,hy,hr⟩:=ih hx
   exact⟨y,Z9 _ hy,hr⟩
section
variable {P' P:Zp}{B:Ik}{ρ:Ren}{Stop:Zi->Zc->Prop}
variable {fr:ZT}
def Hz.plain (E:Env P' P ρ){K:Cut}(hK:K.seg=false){BC:ZT}(h:Hz P' P K ρ fr BC):S4 P' ρ fr:=by
 refine⟨?_,fun d hd=>?_⟩
 .obtain⟨fn,_,h1,_⟩:=E.NI.has fr.fn (h.src hK).1 (h.src hK).2
  exact⟨fn,h1⟩
 .obtain⟨k,_,hl⟩:=h.defers
  obtain⟨y,_,hr⟩:=hl.left hd;cases hr with
  |mk hb=>exact⟨_,_,_,hb,rfl⟩
def Gr.plain (E:Env P' P ρ)(hK:B.K.seg=false){M M':List ZT}(h:Gr P' P B ρ M M'):∃f L,M=f::(L++B.lcs)/\S4 P' ρ f/\∀c∈L,S4 P' ρ c:=by
 induction h with
 |bot h=>exact⟨_,[],rfl,h.plain E hK,fun c hc=>by cases hc⟩
 |cons h Bn t ih=>
  obtain⟨f,L,e,h1,h2⟩:=ih;cases e;refine⟨_,_::L,rfl,h.plain E rfl,fun c hc=>?_⟩;rcases List.mem_cons.1 hc with rfl|hc
  .exact h1
  .exact h2 c hc
def WR.dw (h:WR ρ w w'):DW ρ w:=by
 intro b b' hb ds hd;obtain⟨o,o',h1,h2,h3⟩:=h.obj b b' hb;rw[hd]at h1;cases h1;cases h3 with
 |deferred=>rfl
def DW.Aw (h:DW ρ w)(hn:∀b b',ρ b=some b'->b<n)(hs:∀b,b<n->w₁.heap[b]?=w.heap[b]?):DW ρ w₁:=by
 intro b b' hb ds hd;rw[hs b (hn b b' hb)]at hd;exact h b b' hb ds hd
variable {cs cs':List ZT}
variable {g Bw AG:Zi}
def UQ (K:Dq P' B true Stop)(K9:∀g w t,Stop g w->¬BZ B g->S0 P' true g (tp w t))(hl:B.lcs=[De P'])(KF:B.K.seg=false)(jO:∀(fr:ZT) cs w x,fr.mode=.panicking x->cs≠ []->¬Stop (AV fr cs) w)(E:Env P' P ρ)
 {f f':ZT} (hS:Gr P' P B ρ (f::cs) (f'::cs')) (hM:CE P' B true Stop g w) {x:List zn} (hp:CP P' B true g w (AV (f.raise x) cs) w₁) (hD:DW ρ w₁):
  ∃w₂ y,Cx w₁ w₂/\Stop (AV ((De P').raise (x++y)) []) w₂:=by
 obtain⟨axD,L,e,h1,h2⟩:=hS.plain E KF;cases e;rw[hl]at hp;obtain⟨y,hm,hr⟩:=raise_mode f x;obtain⟨w₂,z,h3,h4⟩:=bI (ρ:=ρ) K K9 hl jO L (f.raise x) w₁ (x++y) hm (by rw[hr];exact⟨h1.fn,h1.defers⟩) h2 hD (hM.path K9 hp);exact⟨w₂,y++z,h3,by rw[<-Zah];exact h4⟩
variable {Post:Ze->Zc->Prop}
def Lc {fn:Func}{PostX:List zn->Zc->Prop}(hl:B.lcs=[De P']):Pm P' B (EN P' B fn Post PostX) where
 fin g w h ha:=by
  rcases h with⟨_,_,i,_,_,h1,es,h2⟩|⟨x,rfl,_⟩
  .exact⟨h1,_,es,h2⟩
  .exfalso
   rcases ha with⟨_,h1,_⟩|⟨_,h1,_⟩<;>(rw[hl]at h1;cases h1)
 out g w h hn:=by
  rcases h with⟨ha,_⟩|⟨x,rfl,_⟩
  .exact absurd ha hn
  .exact⟨_,rfl,fun u=>Pj⟩
def qK {fn:Func}{PostX:List zn->Zc->Prop}:∀(fr:ZT) cs w x,fr.mode=.panicking x->cs≠ []->¬EN P' B fn Post PostX (AV fr cs) w:=by
 rintro fr cs w x hm hc (⟨ha,_⟩|⟨y,h,_⟩)
 .exact Gi hm ha
 .exact hc (congrArg ZaU h)
end
end Go.FO
