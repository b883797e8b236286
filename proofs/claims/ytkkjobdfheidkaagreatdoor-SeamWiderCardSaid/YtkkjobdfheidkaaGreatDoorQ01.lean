/- Part of a proof. -/
import Derived.Test.YtkkjobdfheidkaaGreatDoorQ00
import Derived.Conc.LoneCalls
set_option maxRecDepth 100000
set_option maxHeartbeats 6400000
noncomputable section
set_option linter.all false
open Array renaming mem_iff_getElem->ZbL,getElem?_eq_getElem->Zx,getElem?_eq_some_iff->Za,getElem?_setIfInBounds_ne->Zk,getElem?_map->zF,getElem?_setIfInBounds_self_of_lt->ZV,mem_of_getElem?->zY,forIn_toList->Zaf,mem_append->ZaH,all_eq_true_iff_forall_mem->zS,getElem?_push_lt->Zd3
open Classical renaming choose->zo,choose_spec->zv
open Go renaming Program->Zo,World->Zb,Event->Z9,Goroutine->Zi,Trace->YZ,runNT->ZaE,stepG->za,Value->Zf,TypeId->Zs,Frame->ZM,PanicEntry->zk,FuncId->ZaQ,undef->Ze
open Go.Conc renaming crowd->Yj,runT_crowd_go->Zb1,Deaf_other->Y0,mem_ofEvents->ZQ
open Go.Frame renaming raise->ZaV,enter->Zq
open Go.Goroutine renaming callers->ZaP
open Go.Instr renaming takeDeferred->Yw
open Go.Made renaming word->Zcp
open Go.MemAct renaming ofEvent->ZR,touch?->Yg,low->Zce
open Go.MemOp renaming ofEvents->ZK
open Go.Obj renaming cells->Zbi
open Go.Sem renaming runT_eq->zh,bind->Zb8,runT->ZI
open Go.World renaming shape?->Yn,frozen?->Yo,cell?->zy
open List renaming append_nil->ZaA,append_assoc->Zae,length_nil->zR,length_cons->zb,mem_cons_self->zC,mem_cons_of_mem->zm
open Nat renaming lt_of_lt_of_le->Zl,le_refl->Zj,le_trans->Zr,eq_zero_or_pos->zQ
open Ne renaming symm->Za0
open Option renaming map_eq_some_iff->zc,bind_eq_some_iff->ZX
open Option.some renaming injEq->ZJ,inj->ZW
namespace Go.FA
open Go Go.Conc
open Go.ConcN (sumTo upd sumTo_upd upd_ne upd_same)
section
variable {P:Zo}{Lk:Nat->Prop}{Shun:Loc->Prop}
def GZ (Shun:Loc->Prop)(n:Nat):Prop:=∀l,Shun l->∃a:Addr,l=.cell a/\a.block<n
def G0 (Shun:Loc->Prop)(S:Nat->Prop)(n:Nat):Prop:=∀b,S b->b<n/\∀a:Addr,a.block=b->¬Shun (.cell a)
variable {S D:Nat->Prop}
variable {w w₁ w₂ w':Zb}
def G0.wid (h:G0 Shun S w)(f:GZ Shun w)(i:w<=w₁.heap.size):G0 Shun (Ib S w w₁) w₁:=by
 rintro b (c|⟨k,g⟩)
 .exact⟨Zl (h b c).1 i,(h b c).2⟩
 refine⟨g,λa j d=>?_⟩;obtain⟨l,e,m⟩:=f _ d;cases e;omega
variable {n b c:Nat}
def yW {B:Nat}{e:Z9}(h:VN S Lk e)(k:G0 Shun S B)(j:GZ Shun n):EvL Shun B e:=by
 obtain⟨d,wr,i⟩:=e;unfold VN at h;cases d with
 |cell a=>
  dsimp only at h;obtain⟨g,l⟩:=k _ h.1;refine⟨λx b c=>?_,i!,i!,?_⟩
  .simp only[ZR,Yg,ZJ]at b
   subst b;exact absurd c (l a rfl)
  .simp only[ZR,Zce,Loc.low];exact g
 |obj r=>
  dsimp only at h;obtain⟨g,l⟩:=k _ h.1;refine⟨λx b c=>?_,i!,i!,?_⟩
  .obtain⟨a,f,_⟩:=j _ c
   cases wr<;>cases i<;>simp[ZR,Yg]at b<;>(subst b;cases f)
  .cases wr<;>cases i<;>simp[ZR,Zce,Loc.low]<;>exact g
 |mark m=>
  cases m<;>first|exact h.elim|skip
  refine⟨λx b=>by simp[ZR,Yg]at b,i!,i!,?_⟩;simp[ZR,Zce]
 |output=>
  refine⟨λx b c=>?_,i!,i!,?_⟩
  .obtain⟨a,f,_⟩:=j _ c
   simp only[ZR,Yg,ZJ]at b;subst b;cases f
  .simp only[ZR,Zce,Loc.low]
 |_=>exact h.elim
structure Ms (S Lk:Nat->Prop)(w w':Zb)(S':Nat->Prop):Prop where
 size:w<=w'.heap.size
 still:∀b,b<w.heap.size->¬S b\/Lk b->w'.heap[b]?=w.heap[b]?
 os:w'.os=w.os
 tape:w'.tape=w.tape
 output:w'.output=w.output
 more:∀b,S' b->S b\/w<=b
def Ms.refl (S:Nat->Prop)(w:Zb):Ms S Lk w w S:=⟨Zj _,λ_ _ _=>rfl,rfl,rfl,rfl,λ_ h=>.inl h⟩
def Ms.step {S d:Nat->Prop}{w w₁ w₂:Zb}{es:Array Z9}(h:LN S Lk w w₁ es)(k:Ms (Ib S w w₁) Lk w₁ w₂ d):Ms S Lk w w₂ d:=by
 refine⟨Zr h.size k.size,λb a c=>?_,k.os.trans h.os,k.tape.trans h.tape,k.output.trans h.output,λb a=>?_⟩
 .rw[k.still b (Zl a h.size) (c.imp (λe x=>x.elim e (λy=>o!)) id)]
  exact h.still b a c
 rcases k.more b a with(x|x)|x
 .exact .inl x
 .exact .inr x.1
 exact .inr (Zr h.size x)
def gw (S:Nat->Prop)(w:Zb)(d:Nat):D1 S w (w.at d):=⟨λ_ _=>rfl,Zj _,rfl⟩
def RY {r:(Nat->Prop)->Zi->Zb->Prop}{a:Zi}(h:Xe P true Lk r S a w):
  ∀(M:Nat) (w₂:Zb) (gs:Array Zi) (sl:Option (Nat×Nat)) (t:YZ) (q:Nat->Nat),sumTo gs.size q<=M->D1 S w w₂->gs[0]?=some a->Leavers P t gs q->Past Shun w₂ t->G0 Shun S w₂.heap.size->GZ Shun w₂.heap.size->
   ∃(N:Nat) (gs':Array Zi) (a':Zi) (w':Zb) (H:Option (Nat×Nat)) (s:YZ) (J:Nat->Nat) (D:Nat->Prop),
    ZaE P N (Yj gs w₂ sl) t=(.next (Yj gs' w' H),s)/\gs'.size=gs.size/\gs'[0]?=some a'/\r D a' w'/\Leavers P s gs' J/\Past Shun w' s/\G0 Shun D w'.heap.size/\GZ Shun w'.heap.size/\Ms S Lk w₂ w' D:=by
 induction h with
 | @stop S a w h=>
  intro M w₂ gs sl t q _ hr B o Q O F;exact⟨0,gs,a,w₂,sl,t,q,S,rfl,rfl,B,h w₂ hr,o,Q,O,F,Ms.refl _ _⟩
 | @step S a w By I L I6 B_ k ih=>
  intro M
  induction M with
  |zero=>?_
  |succ M Z=>?_
  all_goals
   intro w₂ gs sl t q hM hr B o Q O F;have yY:∀g∈gs,awake g:=by
    intro g G;obtain⟨i,n,rfl⟩:=ZbL.1 G;rcases zQ i with rfl|Fy
    .have:gs[0]=a:=by simpa[Zx n]using B
     rw[this];exact awake_of (.inl By)
    exact awake_of ((o.old i _ Fy (Zx n)).status.elim .inl λx=>.inr (.inr x))
   obtain⟨i,g,d,H,n,G,Bu⟩:=crowd_pick (P:=P) (w:=w₂) (sl:=sl) yY ⟨0,a,B,By⟩;have Pn:=hr.trans (gw S w₂ d);rcases zQ i with rfl|Fy
   .obtain rfl:g=a:=by rw[B]at n;exact(ZW n).symm
    obtain⟨am,c⟩:=B_ (w₂.at d) Pn;have FB:=Zb1 (P:=P) (sl:=H) (i:=0) n (show za P (0==0) g (w₂.at d)=_ from am);have T:((gs.map (woken P g (I (w₂.at d)) (L (w₂.at d)))).setIfInBounds 0 (I (w₂.at d))).size=gs.size:=i!
    have U:0<gs.size:=(Za.1 B).1;have hW:=G0.wid (w:=w₂.at d) O F c.size;have DX:GZ Shun (L (w₂.at d)).heap.size:=λl hl=>by obtain⟨x,e,f⟩:=F l hl;exact⟨x,e,Zl f c.size⟩
    obtain⟨N,gs',C,Xd,Y,s,J,D,Ox,LO,A,Ts,Tp,v,z,V,p⟩:=ih (w₂.at d) Pn (sumTo ((gs.map (woken P g (I (w₂.at d)) (L (w₂.at d)))).setIfInBounds 0 (I (w₂.at d))).size q) (L (w₂.at d)) ((gs.map (woken P g (I (w₂.at d)) (L (w₂.at d)))).setIfInBounds 0 (I (w₂.at d))) H (t++ZK 0 g.frame.fn g.frame.place (I6 (w₂.at d))) q (Zj _) (D1.refl _ _) (by simp[U])
     ⟨λj x m f=>by
      have BL:0≠j:=o!
      rw[Zk BL,zF]at f;obtain⟨y,hy,rfl⟩:=zc.1 f;have u:=o.old j y m hy;rw[woken_quitsD u,Y0 t o! _ (λW b=>by obtain⟨e,_,rfl⟩:=ZQ b;rfl)];exact u,λj m=>by
      rw[Y0 t (g':=0) (by simp at m;omega) _ (λW b=>by obtain⟨e,_,rfl⟩:=ZQ b;rfl)];exact o.above j (by simpa using m)⟩
     ((Q.mono c.size).own λe he=>yW (c.evs e he) hW F) hW DX
    exact⟨N+1,gs',C,Xd,Y,s,J,D,by simp only[ZaE,Bu,FB];exact Ox,LO.trans T,A,Ts,Tp,v,z,V,Ms.step (w:=w₂) ⟨c.size,c.still,c.os,c.tape,c.output,c.evs⟩ p⟩
   have u:=o.old i g Fy n;have ai:(i==0)=false:=j!
   have U:i<gs.size:=(Za.1 n).1;cases X:q i with
   |zero=>rw[X]at u;rw[u.1]at G;cases G
   |succ E=>
    rw[X]at u;rcases u with⟨hf,_⟩|⟨_,g',es,hm,nN,P_⟩
    .rw[hf]at G;cases G
    have FB:=Zb1 (P:=P) (sl:=H) (i:=i) n (by rw[ai];exact nN (w₂.at d));have T:((gs.map (woken P g g' (w₂.at d))).setIfInBounds i g').size=gs.size:=i!
    have an:sumTo gs.size (upd q i E)+(E+1)=sumTo gs.size q+E:=by
     have:=sumTo_upd q E id U;simpa[X]using this
    first
    |(exfalso;omega)
    |(obtain⟨N,gs',C,Xd,Y,s,J,D,Ox,LO,A,Ts,Tp,v,z,V,p⟩:=Z (w₂.at d) ((gs.map (woken P g g' (w₂.at d))).setIfInBounds i g') H (t++ZK i g.frame.fn g.frame.place es) (upd q i E) (by rw[T];omega) Pn (by
        have BL:i≠0:=o!
        rw[Zk BL,zF,B];simp[woken_run By])
       ⟨λj x m f=>by
        by_cases R:i=j
        .subst R
         rw[ZV (by simpa using U)]at f;obtain rfl:=ZW f;rw[upd_same,Deaf_own];exact P_
        .rw[Zk R,zF]at f
         obtain⟨y,hy,rfl⟩:=zc.1 f;have K:=o.old j y m hy;rw[woken_quitsD K,upd_ne q E (Za0 R),Y0 t R _ (λW b=>by obtain⟨e,_,rfl⟩:=ZQ b;rfl)];exact K,λj m=>by
        rw[Y0 t (g':=i) (by simp at m;omega) _ (λW b=>by obtain⟨e,_,rfl⟩:=ZQ b;rfl)];exact o.above j (by simpa using m)⟩
       (Q.mute o! hm) O F
      exact⟨N+1,gs',C,Xd,Y,s,J,D,by simp only[ZaE,Bu,FB];exact Ox,LO.trans T,A,Ts,Tp,v,z,V,⟨p.size,p.still,p.os,p.tape,p.output,p.more⟩⟩)
end
inductive CI (P':Zo)(B:H9)(m:Bool):Zi->Zb->Zi->Zb->Prop
 |one {g:Zi} {w:Zb} {AH:Zi} {w₁:Zb} {es:Array Z9} (t:Tape) (hn:¬BQ B g) (h:za P' m g (tp w t)=.go AH w₁ es):CI P' B m g w AH w₁
 |cons {g:Zi} {w:Zb} {AH:Zi} {w₁:Zb} {Bs:Zi} {w₂:Zb} {es:Array Z9} (t:Tape) (hn:¬BQ B g) (h:za P' m g (tp w t)=.go AH w₁ es) (k:CI P' B m AH w₁ Bs w₂):CI P' B m g w Bs w₂
section
variable {P' P:Zo}{B:H9}{m:Bool}{Stop:Zi->Zb->Prop}{Lk:Nat->Prop}
variable {g Bs AH:Zi}
variable {w w₁ w₂ w':Zb}
def Cv.paths (i:∀g w t,Stop g w->¬BQ B g->RU P' m g (tp w t)){C:Zi->Zb->Prop}(f:∀g w,Cv P' B m Stop g w->(∀Bs w₂,CI P' B m g w Bs w₂->C Bs w₂)->C g w)(h:Cv P' B m Stop g w):C g w:=by
 have d:C g w/\∀Bs w₂,CI P' B m g w Bs w₂->C Bs w₂:=by
  induction h with
  | @stop g w h=>
   have b:∀Bs w₂,CI P' B m g w Bs w₂->C Bs w₂:=by
    intro Bs w₂ b;cases b with
    |one t c a=>exact absurd a (i _ _ t h c _ _ _)
    |cons t c a _=>exact absurd a (i _ _ t h c _ _ _)
   exact⟨f _ _ (.stop h) b,b⟩
  | @step g w c j AH w₁ n h k e=>
   have b:∀Bs w₂,CI P' B m g w Bs w₂->C Bs w₂:=by
    intro Bs w₂ b;cases b with
    |one t _ a=>
     rw[h t]at a;cases a;exact(e t).1
    |cons t _ a l=>
     rw[h t]at a;cases a;exact(e t).2 _ _ l
   exact⟨f _ _ (.step c j AH w₁ n h k) b,b⟩
 exact d.1
def Cv.path (e:∀g w t,Stop g w->¬BQ B g->RU P' m g (tp w t))(h:Cv P' B m Stop g w)(hp:CI P' B m g w Bs w₂):Cv P' B m Stop Bs w₂:=by
 have one:∀ {g:Zi} {w:Zb} {AH:Zi} {w₁:Zb} {c:Array Z9} (t:Tape),Cv P' B m Stop g w->¬BQ B g->za P' m g (tp w t)=.go AH w₁ c->Cv P' B m Stop AH w₁:=by
  intro g w AH w₁ c t h b a;cases h with
  |stop h=>exact absurd a (e _ _ t h b _ _ _)
  |step b _ AH w₁ c h k=>
   rw[h t]at a;cases a;exact k t
 induction hp with
 |one t b a=>exact one t h b a
 |cons t b a _ d=>exact d (one t h b a)
variable {S D:Nat->Prop}
def Ms.trans {e c:Nat->Prop}(h:Ms S Lk w w₁ e)(k:Ms e Lk w₁ w₂ c):Ms S Lk w w₂ c:=by
 refine⟨Zr h.size k.size,λb a d=>?_,k.os.trans h.os,k.tape.trans h.tape,k.output.trans h.output,λb a=>?_⟩
 .rw[k.still b (Zl a h.size) (d.imp (λf x=>(h.more b x).elim f (λy=>o!)) id)]
  exact h.still b a d
 rcases k.more b a with x|x
 .exact h.more b x
 exact .inr (Zr h.size x)
structure Ctx (P:Zo)(S:Nat->Prop)(g':Zi)(w':Zb)(gs:Array Zi)(t:YZ)(q:Nat->Nat)(Shun:Loc->Prop):Prop where
 main:gs[0]?=some g'
 old:Leavers P t gs q
 past:Past Shun w' t
 held:G0 Shun S w'
 XU:GZ Shun w'
def nO (P' P:Zo)(B:H9)(J:Nat->Obj->Prop)(m:Bool)(c:Zi->Zb->Prop)(ρ₀:Ren)(n₀ n₀':Nat)(Lk:Nat->Prop):Prop:=
 ∀(S:Nat->Prop) (f:Ren) (g:Zi) (w:Zb) (d:Zi) (w':Zb) (h:Array Zi) (n:Option (Nat×Nat)) (t:YZ) (q:Nat->Nat) (Shun:Loc->Prop),
  gd P' P B f g d->Cv P' B m c g w->Nr P' P B J ρ₀ n₀ n₀' Lk S f g w d w'->Ctx P S d w' h t q Shun->
  ∃(N:Nat) (j:Array Zi) (p:Option (Nat×Nat)) (i:YZ) (o:Nat->Nat) (b:Loc->Prop) (e:Nat->Prop) (l:Ren) (AH:Zi) (w₁:Zb) (k:Zi) (a:Zb),
   ZaE P N (Yj h w' n) t=(.next (Yj j a p),i)/\CI P' B m g w AH w₁/\Nr P' P B J ρ₀ n₀ n₀' Lk e l AH w₁ k a/\Ctx P e k a j i o b/\Ms S Lk w' a e
def runNT_add (N M:Nat)(x y:Machine)(t u:YZ)(h:ZaE P N x t=(.next y,u)):ZaE P (N+M) x t=ZaE P M y u:=by
 induction N generalizing x t with
 |zero=>simp only[ZaE]at h;cases h;simp
 |succ N b=>
  rw[show N+1+M=(N+M)+1 by omega];simp only[ZaE]at h⊢;cases c:stepT P x with
  |mk s a=>
   rw[c]at h;cases s with
   |next z=>exact b _ _ h
   |ended o w=>cases h
variable {t:Tape}
def CI.Ds (h:CI P' B m g (tp w t) Bs w₂):CI P' B m g w Bs w₂:=by
 cases h with
 |one a b h=>exact .one a b h
 |cons a b h k=>exact .cons a b h k
def CI.trans (h:CI P' B m g w AH w₁)(k:CI P' B m AH w₁ Bs w₂):CI P' B m g w Bs w₂:=by
 induction h with
 |one t a h=>exact .cons t a h k
 |cons t a h _ b=>exact .cons t a h (b k)
variable {es:Array Z9}
def CI.snoc (h:CI P' B m g w AH w₁)(t:Tape)(a:¬BQ B AH)(k:za P' m AH (tp w₁ t)=.go Bs w₂ es):CI P' B m g w Bs w₂:=h.trans (.one t a k)
def Way (P' P:Zo)(B:H9)(J:Nat->Obj->Prop)(c:Zi->Zb->Prop)(ρ₀:Ren)(n₀ n₀':Nat)(Lk:Nat->Prop)(g:Zi)(w:Zb):Prop:=
  ∀(S:Nat->Prop) (k:Ren) (f:Zi) (w':Zb) (e:Array Zi) (l:Option (Nat×Nat)) (t:YZ) (q:Nat->Nat) (Shun:Loc->Prop),Nr P' P B J ρ₀ n₀ n₀' Lk S k g w f w'->Ctx P S f w' e t q Shun->
   ∃(N:Nat) (i:Array Zi) (n:Option (Nat×Nat)) (h:YZ) (m:Nat->Nat) (b:Loc->Prop) (d:Nat->Prop) (j:Zi) (a:Zb),
    ZaE P N (Yj e w' l) t=(.next (Yj i a n),h)/\vY P' P B J c ρ₀ n₀ n₀' Lk d j a/\Ctx P d j a i h m b/\Ms S Lk w' a d
def nP (T:Twins P' P)(hd:BP<=P.depth)(hB:B.LM)(K:Dg P' B m Stop)(KJ:∀g w t,Stop g w->¬BQ B g->RU P' m g (tp w t)){ρ₀:Ren}{n₀ n₀':Nat}{J:Nat->Obj->Prop}{D₀:Zi->Zb->Prop}(V:∀g w t AH w₁ es,D₀ g w->¬BQ B g->za P' m g (tp w t)=.go AH w₁ es->D₀ AH w₁)(p:∀b o,J b o->Quiet o/\b<n₀)
 (hJ:∀g w,D₀ g w->n₀<=w.heap.size->Cv P' B m Stop g w->∀b o,J b o->w.heap[b]?=some o) (hX:∀k g w,ρ₀.le k->UB B k g->¬Stop g w) (SP:nO P' P B J m Stop ρ₀ n₀ n₀' Lk) (f:Cv P' B m Stop g w):
  D₀ g w->Way P' P B J Stop ρ₀ n₀ n₀' Lk g w:=by
 have a:∀ {g:Zi} {w:Zb} {Bs:Zi} {w₂:Zb},CI P' B m g w Bs w₂->D₀ g w->D₀ Bs w₂:=by
  intro g w Bs w₂ h
  induction h with
  |one t d c=>exact λx=>V _ _ t _ _ _ x d c
  |cons t d c _ ih=>exact λx=>ih (V _ _ t _ _ _ x d c)
 refine Cv.paths (C:=λg w=>D₀ g w->Way P' P B J Stop ρ₀ n₀ n₀' Lk g w) KJ ?_ f;intro g w f hp L S ρ g' w' Z sl t q Shun H X;have hR:=KL (m':=true) T hd hB K (D:=λBs w₂=>(Bs=g/\w₂=w)\/CI P' B m g w Bs w₂) (by
  rintro Bs w₂ t l DZ es (⟨rfl,rfl⟩|h) d c
  .exact .inr (.one t d c)
  exact .inr (h.snoc t d c)) p (λBs w₂ h=>hJ Bs w₂ (h.elim (λe=>by rw[e.1,e.2];exact L) λh=>a h L)) hX f (.inl ⟨rfl,rfl⟩) S ρ g' w' H
 obtain⟨N,R,I,w₁,CU,Q,M,O,Y,_,h0,U,hL,hP,hH,n,i⟩:=RY hR (sumTo Z.size q) w' Z sl t q (Zj _) (D1.refl _ _) X.main X.old X.past X.held X.XU;have j:Ctx P O I w₁ R Q M Shun:=⟨h0,hL,hP,hH,n⟩;rcases U with U|⟨E,Bs,w₂,Ic,Ik,Jv,y⟩
 .exact⟨N,R,CU,Q,M,Shun,O,I,w₁,Y,U,j,i⟩
 obtain⟨Mt,I8,DQ,nQ,TP,sU,sT,k,l,DZ,A,nH,FC,wc,v,u,XV⟩:=SP O E Bs (tp w₂ Ic) I w₁ R CU Q M Shun Jv ((Ik.elim (λ⟨e1,e2⟩=>by rw[e1,e2];exact f) (f.path KJ)).Ds K.blind Ic) y j;have W:CI P' B m g w l DZ:=by
  rcases Ik with⟨rfl,rfl⟩|h
  .exact wc.Ds
  exact h.trans wc.Ds
 obtain⟨jy,XW,XY,nS,sV,sW,s,z,G,RZ,y_,r,F⟩:=hp l DZ W (a W L) sT k A nH I8 DQ nQ TP sU v u;refine⟨N+(Mt+jy),XW,XY,nS,sV,sW,s,z,G,?_,y_,r,(i.trans XV).trans F⟩;rw[runNT_add _ _ _ _ _ _ Y,runNT_add _ _ _ _ _ _ FC];exact RZ
end
end Go.FA
namespace Go.FA
open Go Go.Conc
structure Cr (w w':Zb):Prop where
 size:w'=w.heap.size
 same:∀(b:Nat) (c:Array Zf) (e:Zs) (f:Nat×Nat),w'.heap[b]?=some (Zbi c e f)↔w.heap[b]?=some (Zbi c e f)
def Cr.refl (w:Zb):Cr w w:=⟨rfl,λ_ _ _ _=>Iff.rfl⟩
def Cr.trans {a b c:Zb}(h:Cr a b)(k:Cr b c):Cr a c:=⟨k.size.trans h.size,λx y z u=>(k.same x y z u).trans (h.same x y z u)⟩
structure R0 (P':Zo)(ρ:Ren)(fr:ZM):Prop where
 fn:∃f,P'.funcs[fr.fn]?=some f
 defers:∀d∈fr.defers,∃b b' a,ρ b=some b'/\d= {target:=.collected b,args:=a}
def DW (ρ:Ren)(w:Zb):Prop:=∀b c,ρ b=some c->∀a,w.heap[b]?=some (.deferred (some a))->a=[]
section
variable {P' P:Zo}{B:H9}{m:Bool}{Stop:Zi->Zb->Prop}{ρ:Ren}
variable {w w₁ w₂ w':Zb}
variable {n b c:Nat}
def Ns {a:List Deferred}(h:w.heap[b]?=some (.deferred (some a))):
  (Yw b).runT P' w #[]=(.ok a {w with heap:=w.heap.setIfInBounds b (.deferred none)},#[⟨.obj b,false,false⟩,⟨.obj b,true,false⟩]):=by
 unfold Yw;simp[-zh,bind,Zb8,getObj,setObj,ZI,h,pure,Obj.isChan]
def OI (h:∀c,w.heap[b]?≠some (.deferred (some c))):∃x u es,(Yw b).runT P' w #[]=(.halt x u,es):=by
 unfold Yw;cases a:w.heap[b]? with
 |none=>exact⟨_,_,_,by simp[-zh,bind,Zb8,getObj,ZI,a];exact⟨⟨rfl,rfl⟩,rfl⟩⟩
 |some o=>
  cases o with
  |deferred d=>
   cases d with
   |some c=>exact absurd a (h c)
   |none=>exact⟨_,_,_,by simp[-zh,bind,Zb8,getObj,ZI,a,stuck];exact⟨⟨rfl,rfl⟩,rfl⟩⟩
  |_=>exact⟨_,_,_,by simp[-zh,bind,Zb8,getObj,ZI,a,stuck];exact⟨⟨rfl,rfl⟩,rfl⟩⟩
variable {g Bs AH:Zi}
variable {es:Array Z9}
def Cv.one (c:∀g w t,Stop g w->¬BQ B g->RU P' m g (tp w t))(t:Tape)(h:Cv P' B m Stop g w)(b:¬BQ B g)(a:za P' m g (tp w t)=.go AH w₁ es):Cv P' B m Stop AH w₁:=
 h.path c (.one t b a)
def raise_mode (c:ZM)(x:List zk):∃y,(c.raise x).mode=.panicking (x++y)/\c.raise x= {c with mode:=.panicking (x++y)}:=by
 obtain⟨fn,d,b,a,mode,e,f⟩:=c;cases mode with
 |run=>exact⟨[],by simp[ZaV],by simp[ZaV]⟩
 |returning=>exact⟨[],by simp[ZaV],by simp[ZaV]⟩
 |panicking z=>exact⟨z,by simp[ZaV],by simp[ZaV]⟩
variable {fr:ZM}
variable {cs cs':List ZM}
def F_ {x:List zk}(h:fr.mode=.panicking x):¬BQ B (AU fr cs):=by
 rintro(⟨_,_,b,_⟩|⟨_,_,b,_⟩)<;>(have a:fr.mode=_:=b;rw[h]at a;cases a)
def XZ (K:Dg P' B m Stop)(O:∀g w t,Stop g w->¬BQ B g->RU P' m g (tp w t))(hl:B.lcs=[C5 P'])(V:∀(fr:ZM) cs w x,fr.mode=.panicking x->cs≠ []->¬Stop (AU fr cs) w):∀(L:List ZM) (fr:ZM) (w:Zb) (x:List zk),fr.mode=.panicking x->R0 P' ρ fr->(∀c∈L,R0 P' ρ c)->DW ρ w->
  Cv P' B m Stop (AU fr (L++ [C5 P'])) w->∃w' y,Cr w w'/\Stop (AU ((C5 P').raise (x++y)) []) w':=by
 intro L
 induction L with
 |nil=>?_
 |cons c L X=>?_
 all_goals
  intro fr;obtain⟨fn,tmps,todo,defers,mode,kind,E⟩:=fr
  induction defers with
  |nil=>?_
  |cons d N F=>?_
 case nil.nil=>
  intro w x j n _ _ p;dsimp only at j;subst j;obtain⟨f,P⟩:=n.fn;have G:∀u,za P' m (AU {fn:=fn,tmps:=tmps,todo:=todo,defers:=[],mode:=.panicking x,kind:=kind,roundOf:=E} ([]++ [C5 P'])) u=.go (AU ((C5 P').raise x) []) u #[]:=λu=>by
   rw[BG.2 (by intro h;cases h)];exact C4 rfl rfl P
  have i:=p.one O w.tape (F_ rfl) (G _);exact⟨w,[],Cr.refl w,by rw[ZaA];exact i.vX K (.inr ⟨_,_,_,hl,rfl⟩)⟩
 case cons.nil=>
  intro w x j n A C p;dsimp only at j;subst j;obtain⟨f,P⟩:=n.fn;have G:∀u,za P' m (AU {fn:=fn,tmps:=tmps,todo:=todo,defers:=[],mode:=.panicking x,kind:=kind,roundOf:=E} ((c::L)++ [C5 P'])) u=.go (AU (c.raise x) (L++ [C5 P'])) u #[]:=λu=>by
   rw[BG.2 (by intro h;cases h)];exact C4 rfl rfl P
  have i:=p.one O w.tape (F_ rfl) (G _);obtain⟨y,h1,h2⟩:=raise_mode c x;have U:=A c i!;obtain⟨w',z,M,J⟩:=X (c.raise x) w (x++y) h1 (by rw[h2];exact⟨U.fn,U.defers⟩) (λc' OJ=>A c' (by simp[OJ])) C i;exact⟨w',y++z,M,by rw[<-Zae];exact J⟩
 all_goals
  intro w x j n A C p;dsimp only at j;subst j;obtain⟨b,b',a,Z,rfl⟩:=n.defers d i!;by_cases q:∃l,w.heap[b]?=some (.deferred (some l))
  .obtain⟨l,D⟩:=q
   obtain rfl:=C b b' Z l D;refine(?_:∃w' y,Cr w w'/\Stop (AU ((C5 P').raise (x++y)) []) w');have R:=Ns (P':=P') D;have i:=p.one O w.tape (F_ rfl) (by
    rw[BG.2 (by intro h;cases h)];exact El rfl R)
   have r:b<w:=(Za.1 D).1;have H:Cr w {w with heap:=w.heap.setIfInBounds b (.deferred none)}:=by
    refine⟨i!,λk c e f=>?_⟩;by_cases s:b=k
    .subst s
     rw[D];simp[r]
    simp[Zk s]
   have I:DW ρ {w with heap:=w.heap.setIfInBounds b (.deferred none)}:=by
    intro k W s l S;by_cases v:b=k
    .subst v
     simp[r]at S
    exact C k W s l (by simpa[Zk v]using S)
   obtain⟨w',y,M,J⟩:=F {w with heap:=w.heap.setIfInBounds b (.deferred none)} x rfl ⟨n.fn,λd T=>n.defers d (by simp at T⊢;exact .inr T)⟩ A I i;exact⟨w',y,H.trans M,J⟩
  exfalso;obtain⟨e,u,es,R⟩:=OI (P':=P') (w:=w) (b:=b) (λN Y=>q ⟨N,Y⟩);cases p with
  |stop h=>
   exact V _ _ _ x rfl i! h
  |step hn _ AH w₁ ai h k=>
   obtain⟨o,u2,e3,v⟩:=DY (Q:=P') (m:=m) (fr:= {fn:=fn,tmps:=tmps,todo:=todo,defers:= {target:=.collected b,args:=a}::N,mode:=.panicking x,kind:=kind,roundOf:=E}) (cs:=_) rfl R;have:=h w.tape;rw[BG.2 (by intro h;cases h)]at this;exact absurd this (by rw[show tp w w.tape=w from rfl,v];intro h;cases h)
end
end Go.FA
namespace Go.FA
open Go
def Zv (v:Zf):Prop:=∀a:Ren,VR a v v
def dj {cs:Array Zf}(h:∀x∈cs,Zv x):Zv (.agg cs):=λc=>.agg rfl λi v d b a=>by
 rw[b]at a;cases a;exact h v (zY b) c
variable {x v:Zf}
def X9 (h:Zv v):∀x∈v.cells,Zv x:=by
 intro x a d;have b:=h d;cases v with
 |agg e=>
  have a:x∈e:=a;obtain⟨i,c⟩:=Array.mem_iff_getElem?.1 a;cases b with
  |agg g f=>exact f i x x c c
 |_=>
  have a:x∈#[_]:=a;rw[Array.mem_singleton]at a;subst a;exact b
variable {α:Type}
def jz {a:Type}{I:a->Prop}{f:α->a->Option (ForInStep a)}(g:∀x s r,I s->f x s=some r->I r.value):∀(l:List α) (s r:a),I s->forIn l s f=some r->I r:=by
 intro l
 induction l with
 |nil=>intro s r c h;cases h;exact c
 |cons x l d=>
  intro s r c h;rw[List.forIn_cons]at h;simp only[bind,ZX]at h;obtain⟨q,e,h⟩:=h;have:=g x s q c e;cases q with
  |done b=>cases h;exact this
  |yield b=>exact d b r this h
variable {i:TypeInfo}
def X_ {d:Zs->Option TypeInfo}(hi:∀t i v,d t=some i->i.zero=some v->Zv v){w:Array Field}(h:Made.reckonStruct d w=some i)(m:i.zero=some v):Zv v:=by
 unfold Made.reckonStruct at h;simp only[bind,ZX,pure]at h;obtain⟨a,g,h⟩:=h;rw[<-Zaf]at g;have q:=jz (I:=λs:Array Field×Nat×Nat×Nat×Nat×Bool×Bool×Option (Array Zf)×String=>∀z,s.2.2.2.2.2.2.2.1=some z->∀x∈z,Zv x) (λf s r n h=>?_) _ _ _ (λz c=>by cases c;intro x e;simp at e) g
 .have c:∀z,i.zero=some z->∃k,a.2.2.2.2.2.2.2.1=some k/\z=.agg k:=by
   intro z c;split at h<;>(cases h;simpa[eq_comm]using c)
  obtain⟨k,u,rfl⟩:=c v m;exact dj (q k u)
 obtain⟨j,o,h⟩:=ZX.1 h;have l:∀z,(s.2.2.2.2.2.2.2.1.bind λa=>j.zero.bind λb=>some (a++b.cells))=some z->∀x∈z,Zv x:=by
  intro z c;obtain⟨a,g,c⟩:=ZX.1 c;obtain⟨b,p,c⟩:=ZX.1 c;cases c;intro x e;rcases ZaH.1 e with e|e
  .exact n a g x e
  exact X9 (hi _ _ _ o p) x e
 repeat' split at h
 all_goals simp only[ZX,ZJ,reduceCtorEq,false_and,exists_const,and_false]at h
 all_goals first
  |exact h.elim
  |(obtain⟨_,_,h⟩:=h
    subst h
    first
     |exact λz c=>l z c
     |exact λz c=>by cases c)
def jA {b:Zs->Option TypeInfo}(hi:∀t i v,b t=some i->i.zero=some v->Zv v){d:TypeDesc}(h:Made.reckon b d=some i)(a:i.zero=some v):Zv v:=by
 unfold Made.reckon at h;cases d with
 |struct s=>exact X_ hi h a
 |pointer e=>
  simp only[bind,ZX]at h;obtain⟨j,l,h⟩:=h;have:v=.pointer none:=by
   repeat' split at h
   all_goals simp only[pure,ZX,ZJ,reduceCtorEq]at h
   all_goals first
    |(obtain⟨_,_,h⟩:=h;subst h;simpa[Zcp,eq_comm]using a)
    |exact h.elim
  subst this;exact λg=>.pointer trivial
 |slice e=>
  simp only[bind,pure,ZX,ZJ]at h;obtain⟨_,_,_,_,h⟩:=h;subst h;simp only[Zcp,ZJ]at a;subst a;exact λg=>.slice 0 0 trivial
 |map k e=>
  simp only[bind,pure,ZX,ZJ]at h;obtain⟨_,_,_,_,_,_,_,_,h⟩:=h;subst h;simp only[Zcp,ZJ]at a;subst a;exact λg=>.map trivial
 |chan o e=>
  simp only[bind,pure,ZX,ZJ]at h;obtain⟨_,_,_,_,h⟩:=h;subst h;simp only[Zcp,ZJ]at a;subst a;exact λg=>.chan trivial
 |func r q p=>
  simp only[bind,pure,ZX,ZJ]at h;obtain⟨_,_,h⟩:=h;subst h;simp only[Zcp,ZJ]at a;subst a;exact λg=>.nilFunc
 |array n e=>
  simp only[bind,pure,ZX,ZJ]at h;obtain⟨j,l,_,_,h⟩:=h;subst h;dsimp only at a;split at a
  .cases a
  .split at a
   .cases a
    exact dj λx c=>by simp at c
   .rw[zc]at a
    obtain⟨z,m,rfl⟩:=a;refine dj λx c=>?_;rw[Array.mem_flatten]at c;obtain⟨u,f,c⟩:=c;rw[Array.mem_replicate]at f;rw[f.2]at c;exact X9 (hi _ _ _ l m) x c
 |_=>cases h
variable {T:Tables}
def X' (c:∀(t:Nat) (i:TypeInfo) (v:Zf),T.types[t]?=some i->i.zero=some v->Zv v):∀(n:Nat) t i v,Made.infoAt T n t=some i->i.zero=some v->Zv v:=by
 intro n
 induction n with
 |zero=>intro t i v h;cases h
 |succ n b=>
  intro t i v h a;unfold Made.infoAt at h;split at h
  .exact c _ _ _ h a
  obtain⟨d,_,h⟩:=ZX.1 h;exact jA b h a
def jB (a:∀(t:Nat) (i:TypeInfo) (v:Zf),T.types[t]?=some i->i.zero=some v->Zv v)(t:Zs)(i:TypeInfo)(v:Zf)(h:T.info? t=some i)(b:i.zero=some v):Zv v:=by
 unfold Tables.info? at h;split at h
 .exact a _ _ _ h b
 exact X' a _ _ _ _ h b
def ae {P' P:Zo}(ht:P'.toTables=P.toTables)(hz:P.types.all (λi=>i.zero.all (Pt 8))=true)(hl:(P.info? 0).all (λi=>(i.methods.find? (λm=>m.name== "")).isNone)=true):Twins P' P where
 tables:=ht
 lack i hi:=by
  rw[hi]at hl;simpa using hl
 zero t i v hi hv:=jB (T:=P.toTables) (λt i v h hv ρ=>by
  have hm:=zS.1 hz i (zY h);rw[hv]at hm;exact Ln 8 hm) t i v hi hv
open Classical in
def II:Obj->Obj
 | .cells c e f=>.cells c e (min 0 f.1,max c.size f.2)
 |o=>if Pl o=true then .coro none else o
def ag (w:Zb):Zb:= {w with heap:=w.heap.map II}
def Qy (w:Zb)(b:Nat):(ag w).heap[b]?=(w.heap[b]?).map II:=by
 unfold ag;simp
def nT (w:Zb):(ag w).heap.size=w.heap.size:=by
 unfold ag;simp
variable {w w₁ w₂ w':Zb}
variable {n b c:Nat}
def dm {t:Zs}(h:w.shape? b=some (t,n)):Cw (ag w) b:=by
 unfold Yn at h;cases a:w.heap[b]? with
 |none=>rw[a]at h;cases h
 |some o=>
  rw[a]at h;cases o with
  |cells c e f=>
   have d:(ag w).heap[b]?=some (.cells c e (min 0 f.1,max c.size f.2)):=by rw[Qy,a];rfl
   refine⟨e,c.size,by unfold Yn;rw[d],λg i=>?_⟩;clear h;unfold Yo;rw[d];simp;omega
  |_=>cases h
variable {σ ρ τ:Ren}
def nU (h:WR ρ w w')(i:ρ b=some c):Cw (ag w) b\/∃o,Quiet o/\(ag w).heap[b]?=some o:=by
 obtain⟨o,k,g,p,j⟩:=h.obj b c i;have a:(ag w).heap[b]?=some (II o):=by rw[Qy,g];rfl
 cases j with
 | @cells c r e f q l m=>exact .inl (dm (t:=e) (n:=c.size) (by unfold Yn;rw[g]))
 |number d h=>exact .inr ⟨_,.number _ _,a⟩
 |junk h=>exact .inr ⟨_,.coro,a⟩
 |_=>exact .inr ⟨_,.coro,a⟩
def nV (w:Zb)(a:Addr):(ag w).cell? a=w.cell? a:=by
 unfold zy;rw[Qy];cases w.heap[a.block]? with
 |none=>rfl
 |some o=>cases o<;>first|rfl|(show(match some (II _) with|some (.cells c _ _)=>_|_=>none)=_;unfold II;split<;>rfl)
def EJ (w:Zb)(o:Obj):Zb:= {w with heap:=w.heap.push o}
def Il (w:Zb)(o:Obj)(h:b<w):(EJ w o).heap[b]?=w.heap[b]? :=by
 unfold EJ;simp only;rw[Zd3 h,Zx h]
def Io (w:Zb)(o:Obj):(EJ w o).heap[w.heap.size]?=some o:=by
 unfold EJ;simp
def VO (w:Zb)(o:Obj):(EJ w o).heap.size=w.heap.size+1:=by
 unfold EJ;simp
def VP (h:WR ρ w w')(e:ρ.P5 w c):ρ.le (ρ.ext w c e):=by
 refine⟨λb d a=>?_,rfl,rfl,rfl⟩;have:=(h.lt a).1;show(if b=w then some c else ρ b)=some d;rw[if_neg o!];exact a
variable {o:Obj}
def WR.push (h:WR ρ w w')(g:ρ.P5 w c){f:Obj}(i:w'.heap[c]?=some f)(l:OR (ρ.ext w c g) o f):WR (ρ.ext w c g) (EJ w o) w':=by
 refine⟨λb d k=>?_,h.os⟩;have a:(if b=w then some c else ρ b)=some d:=k;split at a
 .next e=>
  cases a;subst e;exact⟨o,f,Io w o,i,l⟩
 obtain⟨p,j,q,n,m⟩:=h.obj b d a;exact⟨p,j,by rw[Il w o (h.lt a).1];exact q,n,m.mono (VP h g)⟩
def ah (h:Cw w b):Cw (EJ w o) b:=by
 have g:=h.lt;have c:=Il w o g;obtain⟨t,n,f,e⟩:=h;refine⟨t,n,?_,λa d=>?_⟩
 .unfold Yn at*
  rw[c];exact f
 have:=e a d;unfold Yo at*;rw[c];exact this
end Go.FA
namespace Go.FA
open Go Go.Conc
section
variable {P':Zo}{B:H9}{Stop:Zi->Zb->Prop}
structure OK (P':Zo)(B:H9)(Stop:Zi->Zb->Prop):Prop where
 fin:∀g w,Stop g w->BQ B g->g.status=.running/\∃v es,∀u,za P' true g u=.go (AU ((C5 P').finish v) []) u es
 out:∀g w,Stop g w->¬BQ B g->∃fr,g=AU fr []/\∀u,∃o u' e,za P' true g u=.ended o u' e
def OK.KJ (K:OK P' B Stop):∀g w t,Stop g w->¬BQ B g->RU P' true g (tp w t):=λg w t h a=>
 let⟨_,_,h⟩:=K.out g w h a
 IE (h (tp w t))
variable {g Bs AH:Zi}
variable {w w₁ w₂ w':Zb}
def R3 {g':Zi}(h:solo g w=solo g' w'):g=g'/\w=w':=by
 unfold solo at h;simp at h;exact⟨h.2,h.1⟩
def IJ (K:OK P' B Stop){a:Zi}{b:Zb}(t:∀v,a≠AU ((C5 P').finish v) []):∀(N:Nat) (g:Zi) (w:Zb),Cv P' B true Stop g w->runN P' N (solo g w)=.next (solo a b)->(g=a/\w=b)\/CI P' B true g w a b:=by
 intro N
 induction N with
 |zero=>
  intro g w _ h;exact .inl (R3 (by simpa[runN]using h))
 |succ N p=>
  intro g w s h;cases s with
  |stop j=>
   by_cases m:BQ B g
   .obtain⟨f,v,o,c⟩:=K.fin g w j m
    have i:=step_solo_go f (c w);have d:runN P' N (lone ((C5 P').finish v) [] w)=.next (solo a b):=by
     have:=h;simp only[runN,i]at this;exact this
    have e:=runN_ended (EO Ht) d;exact absurd (R3 (show solo (AU ((C5 P').finish v) []) w=solo a b from e)).1.symm (t v)
   .obtain⟨n,rfl,r⟩:=K.out g w j m
    have d:runN P' (N+1) (lone n [] w)=.next (solo a b):=h;have e:=runN_ended (EO (r w)) d;exact .inl (R3 (show solo (AU n []) w=solo a b from e))
  |step l f AH w₁ o d k=>
   have c:za P' true g w=.go (AH w.tape) (w₁ w.tape) (o w.tape):=d w.tape;have i:=step_solo_go f c;have e:runN P' N (solo (AH w.tape) (w₁ w.tape))=.next (solo a b):=by
    have:=h;simp only[runN,i]at this;exact this
   rcases p _ _ (k w.tape) e with⟨x,u⟩|q
   .refine .inr ?_
    rw[<-x, <-u];exact .one w.tape l (d w.tape)
   exact .inr (.cons w.tape l (d w.tape) q)
variable {f:ZaQ}
variable {args:Array Zf}
variable {cs cs':List ZM}
variable {Post:Zf->Zb->Prop}
def R4 (K:OK P' B Stop){c:ZM}{PostX:List zk->Zb->Prop}(p:cs≠ [])(q:Cv P' B true Stop (AU (Zq P' f args .normal) (c::cs)) w)(h:Calls P' f args w (gr Post PostX)):
  (∃v w₁,Post v w₁/\CI P' B true (AU (Zq P' f args .normal) (c::cs)) w (AU (c.finish v) cs) w₁)\/∃x w₁,PostX x w₁/\CI P' B true (AU (Zq P' f args .normal) (c::cs)) w (AU (c.raise x) cs) w₁:=by
 have r:∀(g:Zi) l,g=AU l cs->AU (Zq P' f args .normal) (c::cs)≠g:=by
  rintro _ l rfl b;have:=congrArg (λg:Zi=>g.callers.length) b;simp[AU]at this
 obtain⟨e,w',l,j,o,_,n⟩:=h (c::cs);cases e with
 |returned v=>
  obtain⟨N,k⟩:=Steps.trans (show Steps P' _ _ from o) (Steps.one (step_leave_returned n));refine .inl ⟨v,w',j,?_⟩;have d:∀a,AU (c.finish v) cs≠AU ((C5 P').finish a) []:=λa b=>p (congrArg ZaP b);rcases IJ K d N _ _ q k with⟨m,_⟩|i
  .exact absurd m (r _ _ rfl)
  .exact i
 |panicked x=>
  obtain⟨N,k⟩:=Steps.trans (show Steps P' _ _ from o) (Steps.one (step_leave_panicked n));refine .inr ⟨x,w',j,?_⟩;have d:∀a,AU (c.raise x) cs≠AU ((C5 P').finish a) []:=λa b=>p (congrArg ZaP b);rcases IJ K d N _ _ q k with⟨m,_⟩|i
  .exact absurd m (r _ _ rfl)
  .exact i
 |outgrown=>exact j.elim
end
variable {σ ρ τ:Ren}
def AR.fun {a x y:Addr}(h:AR σ a x)(k:AR σ a y):x=y:=by
 obtain⟨f,e,d⟩:=h;obtain⟨k1,c,b⟩:=k;rw[f]at k1;obtain⟨n,m,l⟩:=x;obtain⟨j,i,g⟩:=y;simp only[ZJ]at k1;dsimp only at e d c b;subst e d c b k1
 rfl
variable {a:Option Addr}
def Om.fun {x y:Option Addr}(h:Om σ a x)(k:Om σ a y):x=y:=by
 cases a<;>cases x<;>cases y<;>first|exact h.elim|exact k.elim|rfl|exact congrArg some (AR.fun h k)
variable {n b c:Nat}
variable {x v:Zf}
def VR.OL {y:Zf}(h:VR σ (.slice a n c) x)(k:VR σ (.slice a n c) y)(b:0<c\/a=none):x=y:=by
 cases h with
 |void _ _=>exact(b.elim (λh=>absurd h (Nat.lt_irrefl _)) λh=>h!)
 |slice _ _ h=>cases k with
  |slice _ _ k=>rw[Om.fun h k]
  |void _ _=>exact(b.elim (λh=>absurd h (Nat.lt_irrefl _)) λh=>h!)
structure Ren.sub (ρ τ:Ren):Prop where
 map:∀b c,ρ b=some c->τ b=some c
 val:∀f,ρ.ok f=true->τ.ok f=true
def AR.sub (s:ρ.sub τ){a x:Addr}(h:AR ρ a x):AR τ a x:=⟨s.map _ _ h.1,h.2⟩
def Om.sub (s:ρ.sub τ){x:Option Addr}(h:Om ρ a x):Om τ a x:=by
 cases a<;>cases x<;>first|exact h.elim|trivial|exact AR.sub s h
def Rq.sub (s:ρ.sub τ){a x:Option Nat}(h:Rq ρ a x):Rq τ a x:=by
 cases a<;>cases x<;>first|exact h.elim|trivial|exact s.map _ _ h
def mP.sub (s:ρ.sub τ){a x:Fn}(h:mP ρ a x):mP τ a x:=by
 cases h with
 |func h=>exact .func (s.val _ h)
 |yield h=>exact .yield (s.map _ _ h)
def VR.sub {ρ τ:Ren}(s:ρ.sub τ){v x:Zf}(h:VR ρ v x):VR τ v x:=by
 induction h with
 |bool b=>exact .bool b
 |int i n=>exact .int i n
 |string t=>exact .string t
 |pointer h=>exact .pointer (h.sub s)
 |slice n c h=>exact .slice n c (h.sub s)
 |map h=>exact .map (h.sub s)
 |chan h=>exact .chan (h.sub s)
 |func h k _ e _ j g=>exact .func (h.sub s) k j e g
 |nilFunc=>exact .nilFunc
 |iface t _ d=>exact .iface t d
 |nilIface=>exact .nilIface
 |agg e _ d=>exact .agg e d
 |tuple e _ d=>exact .tuple e d
 |Ew h=>exact .Ew h
 |meth n f c=>exact .meth n f c
 |void a l=>exact .void a l
def BS.sub (s:ρ.sub τ){a x:Array Zf}(h:BS ρ a x):BS τ a x:=⟨h.1,λi v y c b=>(h.2 i v y c b).sub s⟩
structure Ren.Gi (ρ τ:Ren):Prop where
 map:∀b c,ρ b=some c->τ c=some c
 val:∀f,ρ.ok f=true->τ.ok f=true
def AR.Gi (s:ρ.Gi τ){a x:Addr}(h:AR ρ a x):AR τ x x:=⟨s.map _ _ h.1,rfl,rfl⟩
def Om.Gi (s:ρ.Gi τ){x:Option Addr}(h:Om ρ a x):Om τ x x:=by
 cases a<;>cases x<;>first|exact h.elim|trivial|exact AR.Gi s h
def Rq.Gi (s:ρ.Gi τ){a x:Option Nat}(h:Rq ρ a x):Rq τ x x:=by
 cases a<;>cases x<;>first|exact h.elim|trivial|exact s.map _ _ h
def KM {b:Array Zf}(h:∀(i:Nat) x,b[i]?=some x->∃a,VR τ a x):∃g:Array Zf,BS τ g b:=by
 have c:∀i:Fin b.size,∃a,VR τ a b[i]:=λi=>h i b[i] (Zx i.2);refine⟨Array.ofFn λi:Fin b.size=>zo (c i),i!,λi v x f e=>?_⟩;obtain⟨d,rfl⟩:=Za.1 e;obtain⟨_,rfl⟩:=Za.1 f;rw[Array.getElem_ofFn];exact zv (c ⟨i,d⟩)
def KN {a:Array Zf}{b:Array Zf}{p:Zf->Prop}(e:a.size=b.size)(h:∀(i:Nat) v x,a[i]?=some v->b[i]?=some x->p x):∀(i:Nat) x,b[i]?=some x->p x:=by
 intro i x c;have d:i<a.size:=by have:=(Za.1 c).1;omega
 exact h i _ x (Zx d) c
def VR.Gi {ρ τ:Ren}(s:ρ.Gi τ){v x:Zf}(h:VR ρ v x):∃q,VR τ q x:=by
 induction h with
 |bool b=>exact⟨_,.bool b⟩
 |int i n=>exact⟨_,.int i n⟩
 |string t=>exact⟨_,.string t⟩
 |pointer h=>exact⟨_,.pointer (h.Gi s)⟩
 |slice n c h=>exact⟨_,.slice n c (h.Gi s)⟩
 |map h=>exact⟨_,.map (h.Gi s)⟩
 |chan h=>exact⟨_,.chan (h.Gi s)⟩
 |func h o _ j _ l k=>
  obtain⟨r,m⟩:=KM (KN o l);obtain⟨d,e⟩:=KM (KN j k);cases h with
  |func h=>exact⟨_,.Xq (.func (s.val _ h)) m e⟩
  |yield h=>exact⟨_,.Xq (.yield (s.map _ _ h)) m e⟩
 |nilFunc=>exact⟨_,.nilFunc⟩
 |iface t _ g=>exact⟨_,.iface t g.choose_spec⟩
 |nilIface=>exact⟨_,.nilIface⟩
 |agg j _ g=>
  obtain⟨d,e⟩:=KM (KN j g);exact⟨_,.P6 e⟩
 |tuple j _ g=>
  obtain⟨d,e⟩:=KM (KN j g);exact⟨_,.tuple' e⟩
 |Ew h=>exact⟨_,.Ew h⟩
 |meth n f c=>exact⟨_,.meth n f c⟩
 |void a p=>exact⟨_,.void a p⟩
def VR.Mv (s:ρ.Gi τ)(h:VR ρ (.slice a n c) x):VR τ x x:=by
 cases h with
 |slice n c h=>exact .slice n c (h.Gi s)
 |void _ _=>exact .void _ _
open Classical in
def canon (τ:Ren)(x:Zf):Zf:=if VR τ x x then x else if h:∃v,VR τ v x then zo h else Ze
def OM (h:∃v,VR τ v x):VR τ (canon τ x) x:=by
 unfold canon;split
 .assumption
 exact zv h
def dt (h:VR τ x x):canon τ x=x:=if_pos h
def Dm (τ:Ren):Obj->Obj
 | .cells c e f=>.cells (c.map (canon τ)) e (min 0 f.1,max c.size f.2)
 |o=>if Pl o=true then .coro none else o
def snap (τ:Ren)(w:Zb):Zb:= {w with heap:=w.heap.map (Dm τ)}
def Nt (τ:Ren)(w:Zb)(b:Nat):(snap τ w).heap[b]?=(w.heap[b]?).map (Dm τ):=by
 unfold snap;simp
def Lr (τ:Ren)(w:Zb):(snap τ w).heap.size=w.heap.size:=by
 unfold snap;simp
variable {o:Obj}
def aj (h:Pl o=true):Dm τ o=.coro none:=by
 cases o<;>first|(cases h;done)|(unfold Dm;exact if_pos rfl)
def dv (h:Pl o=true):II o=.coro none:=by
 cases o<;>first|(cases h;done)|(unfold II;exact if_pos rfl)
def Qz (n:Nat)(f:Nat×Nat):yz (min 0 f.1,max n f.2) f:=.inr (.inr ⟨i!,Nat.le_max_right _ _⟩)
def OR.Gi {ρ τ:Ren}(s:ρ.Gi τ){o x:Obj}(h:OR ρ o x):OR τ (Dm τ x) x:=by
 have a:Pl x=true->OR τ (Dm τ x) x:=λj=>by rw[aj j];exact .junk j
 cases h with
 | @cells c n e f m g k=>
  refine .cells e ⟨i!,λi v y d b=>?_⟩ (Qz _ _);rw[zF,b]at d;cases d;refine OM (KN (p:=λx=>∃v,VR τ v x) g.1 (λi v x d b=>(g.2 i v x d b).Gi s) i y b)
 |number l h=>exact .number l (AR.Gi s h)
 |junk h=>exact a h
 |_=>exact a rfl
variable {w w₁ w₂ w':Zb}
def UE (h:w.heap[b]?=some o)(g:OR τ (Dm τ o) o):Cw (snap τ w) b\/∃q,Quiet q/\(snap τ w).heap[b]?=some q:=by
 have d:(snap τ w).heap[b]?=some (Dm τ o):=by rw[Nt,h];rfl
 cases o with
 |cells c e f=>
  refine .inl ⟨e,(c.map (canon τ)).size,by unfold Yn;rw[d];rfl,λi j=>?_⟩;unfold Yo;rw[d];simp[Dm]at j⊢;omega
 |number a l=>exact .inr ⟨_,.number a l,d⟩
 |pending _ _=>cases g
 |view _ _=>cases g
 |_=>exact .inr ⟨_,.coro,d⟩
def I9 {a:Addr}(h:w.cell? a=some v)(d:VR τ v v):(snap τ w).cell? a=some v:=by
 unfold zy at*;rw[Nt];cases b:w.heap[a.block]? with
 |none=>rw[b]at h;cases h
 |some o=>
  rw[b]at h;cases o with
  |cells c e f=>
   show(match some (Dm τ (.cells c e f)) with|some (.cells c _ _)=>_|_=>none)=_;simp only[Dm]at*;split at h
   .cases h
   .rw[if_neg ‹_›];rw[zF,h];simp[dt d]
  |_=>first|(cases h;done)|(exfalso;simp at h;done)
open Classical in
def Ren.VQ (D:Nat->Prop)(ok:Pk)(good:Code->Bool)(sp:ZaQ->Bool)(hl:D ok.low):Ren where
 map:=λb=>if D b then some b else none
 ok:=ok
 good:=good
 sp:=sp
 inj:=by
  intro b sd c h1 h2;split at h1<;>split at h2<;>first|cases h1|cases h2|skip
  all_goals simp_all
 base:=if_pos hl
 sep:=by
  intro b c h;split at h<;>cases h
  rfl
variable {S D:Nat->Prop}
variable {good:Code->Bool}
variable {sp:ZaQ->Bool}
open Classical in
def Gj {ok:Pk}{hl:D ok.low}:(Ren.VQ D ok good sp hl) b=some c↔D b/\b=c:=by
 show(if D b then some b else none)=some c↔_;split
 .simp[*]
 simp[*]
def OO {ok:Pk}(h:∀b c,ρ b=some c->D c)(a:∀f,ρ.ok f=true->ok f=true){hl:D ok.low}:ρ.Gi (Ren.VQ D ok good sp hl):=⟨λb c d=>Gj.2 ⟨h b c d,rfl⟩,a⟩
def nW {ok:Pk}{hl:D ok.low}(h:∀c,D c->∃o,w.heap[c]?=some o/\OR (Ren.VQ D ok good sp hl) (Dm (Ren.VQ D ok good sp hl) o) o):WR (Ren.VQ D ok good sp hl) (snap (Ren.VQ D ok good sp hl) w) w:=by
 refine⟨λb c d=>?_,rfl⟩;obtain⟨e,rfl⟩:=Gj.1 d;obtain⟨o,a,f⟩:=h b e;exact⟨_,o,by rw[Nt,a];rfl,a,f⟩
def Ren.with (ρ:Ren)(ok:Pk)(good:Code->Bool)(sp:ZaQ->Bool)(hl:ok.low=ρ.ok.low):Ren:= {ρ with ok:=ok,good:=good,sp:=sp,base:=by rw[hl];exact ρ.base,sep:=by rw[hl];exact ρ.sep}
def R5 {ok:Pk}(h:∀f,ρ.ok f=true->ok f=true){hl:ok.low=ρ.ok.low}:ρ.sub (ρ.with ok good sp hl):=⟨λ_ _ h=>h,h⟩
def OR.R6 {ok:Pk}(g:∀f,ρ.ok f=true->ok f=true){hl:ok.low=ρ.ok.low}{x:Obj}(h:OR ρ o x):OR (ρ.with ok good sp hl) (II o) x:=by
 have s:ρ.sub (ρ.with ok good sp hl):=R5 g (hl:=hl);have a:Pl o=true->Pl x=true->OR (ρ.with ok good sp hl) (II o) x:=λi d=>by rw[dv i];exact .junk d
 cases h with
 | @cells c n e f m h b=>
  refine .cells e (BS.sub s h) ?_;rcases b with rfl|b|⟨k,j⟩
  .exact Qz _ _
  .exact .inr (.inl b)
  .exact .inr (.inr ⟨i!,Zr j (Nat.le_max_right _ _)⟩)
 |number l h=>exact .number l (h.sub s)
 |junk h=>exact a rfl h
 |_=>exact a rfl rfl
def WR.R6 {ok:Pk}(d:∀f,ρ.ok f=true->ok f=true){hl:ok.low=ρ.ok.low}(h:WR ρ w w'):WR (ρ.with ok good sp hl) (ag w) w':=by
 refine⟨λb c e=>?_,h.os⟩;obtain⟨o,a,j,i,g⟩:=h.obj b c e;exact⟨II o,a,by rw[Qy,j];rfl,i,g.R6 d⟩
section
variable {P' P:Zo}
variable {B:H9}
variable {g Bs AH:Zi}
variable {t:Tape}
variable {m:Bool}
variable {es:Array Z9}
def Fx.out (T:Twins P' P)(c:BP<=P.depth)(d:B.LM)(hl:B.lcs=[C5 P'])(h:Fx P' P B g w\/Hs B g\/P9 B g)(b:¬BQ B g)(a:za P' m g (tp w t)=.go AH w₁ es):Fx P' P B AH w₁\/Hs B AH\/P9 B AH:=by
 rcases h with h|h
 .exact((h.Ds t).step T c d b a).1
 exact absurd a (Nq hl h _ _ _)
variable {f:ZaQ}
variable {cs cs':List ZM}
variable {Post:Zf->Zb->Prop}
def nX (T:Twins P' P)(p:BP<=P.depth)(E:Env P' P ρ)(u:ρ.sp=λ_=>false)(hf:ρ.ok.Nc f=true){a a':Array Zf}(ha:BS ρ a a'){wl:Zb}(F:WR ρ wl w')
 {c':ZM} (G:C_ Post) (hc:∀t,Calls P' f a (tp wl t) (gr Post λ_ _=>False))
 (X:∀(v:Zf) (w:Zb),Post v w->∀(b:Nat) (o:Obj),Quiet o->wl.heap[b]?=some o->w.heap[b]?=some o)
 (R7:∀b c,ρ b=some c->Cw wl b\/∃o,Quiet o/\wl.heap[b]?=some o) (hS:∀c,S c↔∃b,ρ b=some c):
  Xe P m (λc=>∃b,ρ b=some c) (λS g w=>∃σ n v v',g=AU (c'.finish v') cs'/\Post v n/\VR σ v v'/\ρ.le σ/\(∀b c,σ b=some c->ρ b=some c\/(wl<=b/\w'<=c))/\WR σ n w/\∀c,S c↔∃b,σ b=some c) S (AU (Zq P f a' .normal) (c'::cs')) w':=by
 let B:H9:=⟨.whole,[C5 P'],c'::cs',false⟩
 have q:B.LM:=⟨λ_=>Cut.RL,by simp[B],λ_=>by simp[B],λh=>h!⟩;have I:sP P' P B ρ (AU (Zq P' f a .normal) [C5 P']) (AU (Zq P f a' .normal) (c'::cs')):=
  ⟨_,_,_,_,rfl,rfl,.bot (B:=B) (Hp.enter E hf (by rw[u]) ha)⟩
 have M:Fx P' P B (AU (Zq P' f a .normal) [C5 P']) wl:=⟨ρ,_,_,E,I,F,u⟩;have K:Dg P' B true (gh P' Post λ_ _=>False):=XN rfl G (λ_ _ _ x=>x);have A:=TN T p q rfl rfl rfl G (λ_ _ _ x=>x) M hc;have dy:∀(g:Zi) (w:Zb),gh P' Post (λ_ _=>False) g w->∀(b:Nat) (o:Obj),(Quiet o/\wl.heap[b]?=some o)->w.heap[b]?=some o:=by
  rintro g w (⟨v,_,h⟩|⟨x,_,h⟩) b o ⟨i,d⟩
  .exact X v w h b o i d
  exact h.elim
 have O:∀(b:Nat) (o:Obj),(Quiet o/\wl.heap[b]?=some o)->b<wl:=λb o h=>(Za.1 h.2).1;have H:Nr P' P B (λb o=>Quiet o/\wl.heap[b]?=some o) ρ wl w' (λc=>∃b,ρ b=some c) S ρ (AU (Zq P' f a .normal) [C5 P']) wl (AU (Zq P f a' .normal) (c'::cs')) w':=
  ⟨E,Ren.le_refl _,λ_ _ h=>.inl h,⟨Zj _,Zj _⟩,.inl I,F,λc ⟨b,N⟩=>⟨b,N,(R7 b c N).imp id λ⟨o,i,d⟩=>⟨o,⟨i,d⟩,d⟩⟩,hS⟩
 have hR:=KL (m':=m) T p q K (D:=λg w=>Fx P' P B g w\/Hs B g\/P9 B g) (λg w t AH w₁ es h Z W=>Fx.out T p q rfl h Z W) (J:=λb o=>Quiet o/\wl.heap[b]?=some o) (λb o h=>⟨h.1,O b o h⟩)
  (λg w hD U A b o h=>Mr T p q K (λb o h=>h.1) dy A hD b o h (Zl (O b o h) U))
  (λσ g w _ hl C=>by
   obtain⟨c,r,x,x',i,d,_⟩:=hl;cases i;rcases C with⟨v,s,_⟩|⟨y,_,k⟩
   .rw[d]at s
    have:=congrArg (λg:Zi=>g.frame) s;exact DH this.symm
   exact k) A (.inl M) S ρ _ _ H
 refine hR.imp λFO g w₁ V=>?_;rcases V with⟨σ,gl,n,C,j⟩|⟨σ,gl,n,t,_,z,j⟩
 .rcases C with⟨v,rfl,Y⟩|⟨y,_,k⟩
  .rcases j.goes with hg|Ga|⟨R,_,_,_,_,_,_,_,l,_⟩
   .exfalso
    obtain⟨gp,gq,i,d⟩:=hg.AU;have:=congrArg (λg:Zi=>g.callers.length) i;simp only[AU,zR]at this;simp only[B,zb,zR]at d;omega
   .obtain⟨_,c,r,L,ai,XP,Q,i,d,s,k,h5⟩:=Ga
    cases i;cases d;have e:v=XP:=Mq (congrArg (λg:Zi=>g.frame) k);subst e;exact⟨σ,n,v,Q,h5,Y,s,j.le,j.fresh,j.world,j.holds⟩
   rw[j.le.2.2.2,u]at l;cases l
  exact k.elim
 obtain⟨R,_,_,_,_,_,_,_,l,_⟩:=z;rw[j.le.2.2.2,u]at l;cases l
variable {args:Array Zf}
def Es {b:Zi->Zb->Prop}(K:OK P' B b){fn:Func}{i:Nat}(q:P'.funcs[f]?=some fn)(o:fn.results= #[.tmp i]){c:ZM}(O:B.lcs.length<(c::cs).length)(I:Cv P' B true b (AU (Zq P' f args .normal) (c::cs)) w)(h:Calls P' f args w (gr Post λ_ _=>False)):
  ∃v w₁,Post v w₁/\∀t,CI P' B true (AU (Zq P' f args .normal) (c::cs)) w (AU (c.finish v) cs) (tp w₁ t):=by
 obtain⟨e,w',a,k,A,y,z⟩:=h (c::cs);cases e with
 |panicked x=>exact k.elim
 |outgrown=>exact k.elim
 |returned v=>
  refine⟨v,w',k,λt=>?_⟩;obtain⟨N,H⟩:=show Steps P' _ _ from A;have C:∀n,AU a (c::cs)≠AU ((C5 P').finish n) []:=λn D=>by cases congrArg ZaP D
  have s:¬BQ B (AU a (c::cs)):=by
   rintro(⟨_,r,_⟩|⟨_,r,_⟩)<;>(have J:(c::cs).length=B.lcs.length:=r;omega)
  have m:za P' true (AU a (c::cs)) (tp w' t)=.go (AU (c.finish v) cs) (tp w' t) (seen P' a.fn #[]):=by
   obtain⟨p,G,F,M,d,u⟩:=z;rw[y,q]at d;cases d;have j:=results_tmp (P':=P') o a.tmps w';have l:(results fn a.tmps).run P' w'=.ok (a.tmps.getD i Ze) w':=by
    have:=congrArg Prod.fst j;simpa[Sem.run]using this
   rw[l]at u;cases u;rw[BG.2 (by rw[p];intro h;cases h)];exact DV G p F (by rw[y];exact q) (results_tmp o _ _)
  rcases IJ K C N _ _ I H with⟨j,l⟩|E
  .have L:Zq P' f args .normal=a:=congrArg (λg:Zi=>g.frame) j
   rw[j,l];exact .one t s m
  exact E.snoc t s m
end
variable {α:Type}
def Ep.left {b:Type}{R:α->b->Prop}{l:List α}{m:List b}(h:Ep R l m){x:α}(a:x∈l):∃y∈m,R x y:=by
 induction h with
 |nil=>cases a
 |cons h _ c=>
  rcases List.mem_cons.1 a with rfl|a
  .exact⟨_,zC,h⟩
  obtain⟨y,d,e⟩:=c a;exact⟨y,zm _ d,e⟩
section
variable {P' P:Zo}{B:H9}{ρ:Ren}{Stop:Zi->Zb->Prop}
variable {fr:ZM}
def Hp.plain (E:Env P' P ρ){K:Cut}(a:K.seg=false){i:ZM}(h:Hp P' P K ρ fr i):R0 P' ρ fr:=by
 refine⟨?_,λd e=>?_⟩
 .obtain⟨fn,_,g,_⟩:=E.Nc.has fr.fn (h.src a).1 (h.src a).2
  exact⟨fn,g⟩
 obtain⟨k,_,c⟩:=h.defers;obtain⟨y,_,b⟩:=c.left e;cases b with
 |mk f=>exact⟨_,_,_,f,rfl⟩
def Gh.plain (E:Env P' P ρ)(d:B.K.seg=false){M M':List ZM}(h:Gh P' P B ρ M M'):∃f L,M=f::(L++B.lcs)/\R0 P' ρ f/\∀c∈L,R0 P' ρ c:=by
 induction h with
 |bot h=>exact⟨_,[],rfl,h.plain E d,λc a=>by cases a⟩
 |cons h j t b=>
  obtain⟨f,L,e,i,g⟩:=b;cases e;refine⟨_,_::L,rfl,h.plain E rfl,λc a=>?_⟩;rcases List.mem_cons.1 a with rfl|a
  .exact i
  exact g c a
def WR.dw (h:WR ρ w w'):DW ρ w:=by
 intro b f d j c;obtain⟨o,g,a,i,e⟩:=h.obj b f d;rw[c]at a;cases a;cases e with
 |deferred=>rfl
def DW.Ar (h:DW ρ w)(f:∀b a,ρ b=some a->b<n)(e:∀b,b<n->w₁.heap[b]?=w.heap[b]?):DW ρ w₁:=by
 intro b a d g c;rw[e b (f b a d)]at c;exact h b a d g c
variable {cs cs':List ZM}
variable {g Bs AH:Zi}
def TQ (K:Dg P' B true Stop)(b:∀g w t,Stop g w->¬BQ B g->RU P' true g (tp w t))(hl:B.lcs=[C5 P'])(q:B.K.seg=false)(c:∀(fr:ZM) cs w x,fr.mode=.panicking x->cs≠ []->¬Stop (AU fr cs) w)(E:Env P' P ρ)
 {f o:ZM} (i:Gh P' P B ρ (f::cs) (o::cs')) (j:Cv P' B true Stop g w) {x:List zk} (hp:CI P' B true g w (AU (f.raise x) cs) w₁) (k:DW ρ w₁):
  ∃w₂ y,Cr w₁ w₂/\Stop (AU ((C5 P').raise (x++y)) []) w₂:=by
 obtain⟨p,L,e,a,n⟩:=i.plain E q;cases e;rw[hl]at hp;obtain⟨y,h,d⟩:=raise_mode f x;obtain⟨w₂,z,m,l⟩:=XZ (ρ:=ρ) K b hl c L (f.raise x) w₁ (x++y) h (by rw[d];exact⟨a.fn,a.defers⟩) n k (j.path b hp);exact⟨w₂,y++z,m,by rw[<-Zae];exact l⟩
variable {Post:Zf->Zb->Prop}
def KO {fn:Func}{PostX:List zk->Zb->Prop}(hl:B.lcs=[C5 P']):OK P' B (Ez P' B fn Post PostX) where
 fin g w h ha:=by
  rcases h with⟨_,_,i,_,_,h1,es,h2⟩|⟨x,rfl,_⟩
  .exact⟨h1,_,es,h2⟩
  exfalso;rcases ha with⟨_,h1,_⟩|⟨_,h1,_⟩<;>(rw[hl]at h1;cases h1)
 out g w h hn:=by
  rcases h with⟨ha,_⟩|⟨x,rfl,_⟩
  .exact absurd ha hn
  exact⟨_,rfl,λu=>OH⟩
def nZ {fn:Func}{PostX:List zk->Zb->Prop}:∀(fr:ZM) cs w x,fr.mode=.panicking x->cs≠ []->¬Ez P' B fn Post PostX (AU fr cs) w:=by
 rintro fr cs w x a b (⟨c,_⟩|⟨y,h,_⟩)
 .exact F_ a c
 exact b (congrArg ZaP h)
end
end Go.FA
