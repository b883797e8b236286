/- Part of a proof. -/
import Derived.Test.YtkkjobdfheidkaaGreatDoorQ01
import Derived.Conc.WgGenN3
set_option maxRecDepth 100000
set_option maxHeartbeats 6400000
noncomputable section
set_option linter.all false
open Array renaming mem_of_getElem?->zC,getElem?_eq_some_iff->Za,getElem?_push_lt->Zd2,getElem?_eq_getElem->ZC,getElem?_setIfInBounds_ne->Zk,getElem?_push_size->ZaA,getElem?_setIfInBounds_self_of_lt->Z5
open Classical renaming choose->zu,choose_spec->zA
open Go renaming TypeId->Zr,World->Zc,Goroutine->Zi,Program->Zp,Event->zc,stepG->zd,Trace->Y8,HappensBefore->ZbC,mayWake->ZcJ,Value->Ze,undef->Zf,FuncId->ZaV,deafBehind->Yc,runNT->ZaI,Frame->ZT
open Go.Act renaming eval->ZbS
open Go.Conc renaming touchAt->ZaW,touch_of->ZbJ,getElem?_append_cases->YH,getElem?_append_old->YY,touchAt_of->ZcA,noRace_append->Zcq,semEvents->ZaD,QuitsD->ZcD,served->YZ,Deaf_other->Y9,mem_ofEvents->ZW,crowd->Ys,ofEvents_eq->Zcc,runT_crowd_go->Zb6,aside_setCell->Zad,stepG_seq->Zo,stepG_region_end->Zh,stepG_markAt->ZbT,stepG_mark0->Zcb,stepG_skip->Z3,stepG_add_atomic->Zat,stepG_ret'->Yf,stepG_load_atomic->Zbw,stepG_block->Zbx
open Go.Conc.Goes renaming rely->Yh,running->zy,stop->Z2,cases->Ya
open Go.ConcN renaming Mode->Yl,Vc_le->ZdQ,get_map_set_same->Zbv,get_map_set->Zcg,st_flag->Zbc,st_waiters->ZaJ
open Go.ConcN.Mode renaming last->Zca
open Go.ConcR renaming ofEvent_loc_mark->zR,ofEvent_cell->Zc3,ofEvent_mk->Zdq
open Go.Extern.Race renaming none_->Zdi
open Go.IntKind renaming wrap_u64->Zbk,wrap_i32->Zbg
open Go.MemAct renaming touch?->Yn,ofEvent->ZY,mark->ZdB
open Go.MemOp renaming ofEvents->ZO
open Go.Sem renaming bind->Zcd
open Go.Trace renaming g?->Zan
open Go.World renaming setChan->Zb0,setCell->zb
open List renaming mem_append->Zas,map_append->Zaa,getElem?_toArray->Z1,getElem?_cons_zero->ZP
open Nat renaming le_refl->Zj,zero_le->Zn,lt_of_lt_of_le->Zm,le_trans->Zt,lt_or_ge->Zaw,lt_wfRel->ZdK,le_of_eq->ZcT,eq_zero_or_pos->z7,le_of_not_lt->Zdg
open Ne renaming symm->Zbq
open Option renaming map_eq_some_iff->zf,map_some->Zdz,getD_some->Zx
open Option.some renaming injEq->ZN,inj->ZK
open Prod renaming Lex->ZcQ,lex->ZcP
open Prod.Lex renaming left->Za4,right->zI
namespace Go.Pair
open Go Go.Conc Go.FO
open Go.ConcN (PermW fork_knows RelBy Deaf_absent Deaf_still WgLive)
open Go.ConcR (WgAt stA smA)
def M3 (Wg:Nat)(l:Loc):Prop:=∃a:Addr,l=.cell a/\a.block=Wg
def blk:Loc->Option Nat
 | .cell a=>some a.block
 | .obj r=>some r
 |_=>none
structure Ai (ty:Zr)(Wg:Nat)(S:Nat->Prop)(w w₂:Zc):Prop where
 base:D_ S w w₂
 live:WgLive ty Wg w->WgLive ty Wg w₂
section
variable {ty:Zr}{Wg:Nat}{S:Nat->Prop}{w w₁ w₂:Zc}
def Ai.refl (w:Zc):Ai ty Wg S w w:=⟨D_.refl _ _,id⟩
def Ai.trans (h:Ai ty Wg S w w₁)(k:Ai ty Wg S w₁ w₂):Ai ty Wg S w w₂:=⟨h.base.trans k.base,k.live∘h.live⟩
def Ai.at (w:Zc)(d:Nat):Ai ty Wg S w (w.at d):=⟨jN S w d,id⟩
end
def H2 (S:Nat->Prop)(w:Zc):Ip S w w=S:=by
 funext b
 apply propext;unfold Ip;constructor
 .rintro(h|⟨h,k⟩)
  .exact h
  .omega
 .exact .inl
variable {w w' w₁ w₂ w₀:Zc}
def S_ (S:Nat->Prop){u:Zc}(h:w'.heap.size=u.heap.size):Ip S w w'=Ip S w u:=by
 unfold Ip;rw[h]
abbrev Ci:=(Nat->Prop)->Zi->Zc->Prop
inductive Bf (P:Zp)(m:Bool)(ty:Zr)(Wg:Nat)(Lk:Nat->Prop)(Stop:Ci):(Nat->Prop)->Zi->Zc->Prop
 |stop {S:Nat->Prop} {g:Zi} {w:Zc} (h:∀w₂,Ai ty Wg S w w₂->Stop S g w₂):Bf P m ty Wg Lk Stop S g w
 |step {S:Nat->Prop} {g:Zi} {w:Zc} (hs:g.status=.running) (GX:Zc->Zi) (E6:Zc->Zc) (Jl:Zc->Array zc)
   (h:∀w₂,Ai ty Wg S w w₂->zd P m g w₂=.go (GX w₂) (E6 w₂) (Jl w₂)/\Mq S Lk w₂ (E6 w₂) (Jl w₂)) (k:∀w₂,Ai ty Wg S w w₂->Bf P m ty Wg Lk Stop (Ip S w₂ (E6 w₂)) (GX w₂) (E6 w₂)):Bf P m ty Wg Lk Stop S g w
section
variable {P:Zp}{m:Bool}{ty:Zr}{Wg:Nat}{Lk:Nat->Prop}{Stop Stop₂:Ci}{S:Nat->Prop}{g:Zi}{w w₁:Zc}
open Classical in
def Bf.bB (hs:g.status=.running)
 (hx:∀w₂,Ai ty Wg S w w₂->∃AG w₁ es,zd P m g w₂=.go AG w₁ es/\Mq S Lk w₂ w₁ es/\Bf P m ty Wg Lk Stop (Ip S w₂ w₁) AG w₁):Bf P m ty Wg Lk Stop S g w:=by
 have hy:∀w₂,∃p:Zi×Zc×Array zc,Ai ty Wg S w w₂->zd P m g w₂=.go p.1 p.2.1 p.2.2/\Mq S Lk w₂ p.2.1 p.2.2/\Bf P m ty Wg Lk Stop (Ip S w₂ p.2.1) p.1 p.2.1:=by
  intro w₂;by_cases h:Ai ty Wg S w w₂
  .obtain⟨AG,w₁,es,h1,h2,h3⟩:=hx w₂ h
   exact⟨(AG,w₁,es),fun _=>⟨h1,h2,h3⟩⟩
  .exact⟨(g,w,#[]),fun x=>absurd x h⟩
 refine .step hs (fun w₂=>(zu (hy w₂)).1) (fun w₂=>(zu (hy w₂)).2.1) (fun w₂=>(zu (hy w₂)).2.2) (fun w₂ h=>?_) fun w₂ h=>?_
 .exact⟨(zA (hy w₂) h).1,(zA (hy w₂) h).2.1⟩
 .exact(zA (hy w₂) h).2.2
def Bf.imp (h:Bf P m ty Wg Lk Stop S g w)(hi:∀S g w,Stop S g w->Stop₂ S g w):Bf P m ty Wg Lk Stop₂ S g w:=by
 induction h with
 |stop h=>exact .stop fun w₂ Cw=>hi _ _ _ (h w₂ Cw)
 |step hs GX E6 Jl h _ ih=>exact .step hs GX E6 Jl h ih
def Bf.bind (h:Bf P m ty Wg Lk Stop S g w)(hi:∀S g w,(∀w₂,Ai ty Wg S w w₂->Stop S g w₂)->Bf P m ty Wg Lk Stop₂ S g w):Bf P m ty Wg Lk Stop₂ S g w:=by
 induction h with
 |stop h=>exact hi _ _ _ h
 |step hs GX E6 Jl h _ ih=>exact .step hs GX E6 Jl h ih
def Bf.of_run (h:aC P m Lk Stop S g w):Bf P m ty Wg Lk Stop S g w:=by
 induction h with
 |stop h=>exact .stop fun w₂ Cw=>h w₂ Cw.base
 |step hs GX E6 Jl h _ ih=>exact .step hs GX E6 Jl (fun w₂ Cw=>h w₂ Cw.base) fun w₂ Cw=>ih w₂ Cw.base
def mg (S Lk:Nat->Prop)(w:Zc):Mq S Lk w w #[]:=⟨Zj _,fun _ _ _=>rfl,rfl,rfl,rfl,fun e he=>by simp at he⟩
def Bf.Hg {St:Ci}:∀ {n:Nat} {g:Zi} {w:Zc},Goes P m (Ai ty Wg S) Go.ConcR.DC0 (St S) n g w->Bf P m ty Wg Lk St S g w:=by
 intro n
 induction n with
 |zero=>intro g w h;exact .stop h
 |succ n ih=>
  intro g w h;rcases h with h|⟨hs,h⟩
  .exact .stop h
  .refine .bB hs fun w₂ hr=>?_
   have:=h w₂ hr;cases hx:zd P m g w₂ with
   |go AG w₁ es=>
    rw[hx,goes_go]at this;obtain⟨⟨rfl,rfl⟩,hg⟩:=this;exact⟨_,_,_,rfl,mg _ _ _,by rw[H2];exact ih hg⟩
   |_=>rw[hx]at this;exact this.elim
abbrev St:=(Nat->Prop)×Zi×Zc
def Child (P:Zp)(ty:Zr)(Wg:Nat)(y x:Bool×Ci×St):Prop:=
 y.1=x.1/\y.2.1=x.2.1/\(¬∀w₂,Ai ty Wg x.2.2.1 x.2.2.2.2 w₂->x.2.1 x.2.2.1 x.2.2.2.1 w₂)/\
  ∃w₂ es,Ai ty Wg x.2.2.1 x.2.2.2.2 w₂/\zd P x.1 x.2.2.2.1 w₂=.go y.2.2.2.1 y.2.2.2.2 es/\y.2.2.1=Ip x.2.2.1 w₂ y.2.2.2.2
def Bf.acc (h:Bf P m ty Wg Lk Stop S g w):Acc (Child P ty Wg) (m,Stop,S,g,w):=by
 induction h with
 |stop h=>exact⟨_,fun y hy=>absurd h hy.2.2.1⟩
 | @step S g w hs GX E6 Jl h _ ih=>
  refine⟨_,fun y hy=>?_⟩;obtain⟨m',St',S',g',w'⟩:=y;obtain⟨h1,h2,_,w₂,es,hr,B5,hS⟩:=hy;dsimp only at h1 h2 hr B5 hS;subst h1 h2;rw[(h w₂ hr).1]at B5;cases B5;rw[hS];exact ih w₂ hr
def Fuel (P:Zp)(ty:Zr)(Wg:Nat):Type:= {x:Bool×Ci×St // Acc (Child P ty Wg) x}
def Fuel.lt {P:Zp}{ty:Zr}{Wg:Nat}(a b:Fuel P ty Wg):Prop:=Child P ty Wg a.1 b.1
def Fuel.wf (P:Zp)(ty:Zr)(Wg:Nat):WellFounded (@Fuel.lt P ty Wg):=by
 refine⟨fun⟨x,hx⟩=>?_⟩
 induction hx with
 |intro x hx ih=>
  exact⟨_,fun⟨y,hy⟩ AA=>ih y AA⟩
end
def Bf.fuel {P:Zp}{m:Bool}{ty:Zr}{Wg:Nat}{Lk:Nat->Prop}{Stop:Ci}{S:Nat->Prop}{g:Zi}{w:Zc}(h:Bf P m ty Wg Lk Stop S g w):Fuel P ty Wg:=⟨(m,Stop,S,g,w),h.acc⟩
section
def Fuel.none (P:Zp)(ty:Zr)(Wg:Nat):Fuel P ty Wg:=
 ⟨(false,fun _ _ _=>True,fun _=>False,default,default),⟨_,fun _ hy=>absurd (fun _ _=>trivial) hy.2.2.1⟩⟩
end
end Go.Pair
namespace Go.Pair
open Go Go.Conc Go.FO
open Go.ConcN (PermW fork_knows RelBy Deaf_absent Deaf_still)
open Go.ConcR (WgAt stA smA g_of_ofEvents)
def ix (K:Nat):Nat->Nat
 |0=>0
 |i+1=>K+i
structure JZ where
 S:Nat->Nat->Prop
 L:Nat->Nat->Prop
structure TI (K Wg:Nat)(Shun:Loc->Prop)(H:JZ)(j n:Nat)(t:Y8):Prop where
 nr:∀said,¬Race said t
 seen:∀op∈t,op.act.low n
 kn:∀i a,ZaW t i=some a->a.loc.isMemory=true->Knows t 0 i\/(Shun a.loc/\a.kind=.atomic)\/∃p,1<=p/\p<=j/\t.g? i=some (ix K p)
 pw:∀p,p<=j->∀b,H.S p b->∀l,blk l=some b->PermW t (ix K p) l
 pr:∀p,p<=j->∀b,H.S p b->¬H.L p b->∀l,blk l=some b->Perm t (ix K p) l
 wq:∀i a,ZaW t i=some a->M3 Wg a.loc->(a.kind=.plain->∀p,p<=j->Knows t (ix K p) i)/\(a.kind=.said->Knows t 0 i)
 ov:∀i g,t.g? i=some g->g≠0->t.counts i->(∃k,t.g? k=some 0/\ZbC t i k)\/∃p,1<=p/\p<=j/\g=ix K p
structure Apt (Wg:Nat)(H:JZ)(j n:Nat):Prop where
 two:∀p q,p<=j->q<=j->p≠q->∀b,H.S p b->H.S q b->H.L p b
 wg:∀p,p<=j->¬H.S p Wg
 low:∀p,p<=j->∀b,H.S p b->b<n
def JZ.set (H:JZ)(p:Nat)(S L:Nat->Prop):JZ:=⟨fun q=>if q=p then S else H.S q,fun q=>if q=p then L else H.L q⟩
section
variable {K Wg:Nat}{Shun:Loc->Prop}{H:JZ}{j n n':Nat}{t u:Y8}
def AZ (p:Nat)(S L:Nat->Prop):(H.set p S L).S p=S/\(H.set p S L).L p=L:=by simp[JZ.set]
variable {p b i k s' e' m' dd' d Ld f' m:Nat}
def BI {q:Nat}(h:q≠p)(S L:Nat->Prop):(H.set p S L).S q=H.S q/\(H.set p S L).L q=H.L q:=by simp[JZ.set,h]
variable {l:Loc}
def vT (h:blk l=some b){B:Nat}:l.low B↔b<B:=by
 cases l<;>simp[blk]at h<;>subst h<;>rfl
variable {a:Touch}
def VD (h:∀op∈t,op.act.low n)(ha:ZaW t i=some a)(hb:blk a.loc=some b)(hn:n<=b):False:=by
 obtain⟨x,hx,Xb⟩:=ZbJ ha;have:=h x (zC hx);generalize x.act=act at this Xb;cases act with
 |access e=>
  simp only[Yn,ZN]at Xb;subst Xb;have:=(vT hb).1 this;omega
 |mark m=>
  cases m<;>simp only[Yn,ZN,reduceCtorEq]at Xb
  all_goals
   subst Xb;simp only[blk,ZN]at hb;have:_<n:=this;omega
 |_=>simp[Yn]at Xb
def fR (h:∀i g,t.g? i=some g->g≠0->t.counts i->(∃k,t.g? k=some 0/\ZbC t i k)\/∃p,1<=p/\p<=j/\g=ix K p)(hu:∀op∈u,op.g=0\/(∃p,1<=p/\p<=j/\op.g=ix K p)\/op.act.touch?=none):
  ∀i g,(t++u).g? i=some g->g≠0->(t++u).counts i->(∃k,(t++u).g? k=some 0/\ZbC (t++u) i k)\/∃p,1<=p/\p<=j/\g=ix K p:=by
 intro i g hg Bn hc;have Pl:=hc;obtain⟨x,hx,_⟩:=Pl;obtain⟨op,hop,hox⟩:=ZbJ hx;rcases YH hop with⟨hi,lU⟩|⟨_,anj⟩
 .rcases h i g (by simpa[Zan,YY hi]using hg) Bn ((counts_old hi).1 hc) with⟨k,hk,hb⟩|z
  .have WY:k<t.size:=by
    unfold Zan at hk;obtain⟨z,hz,_⟩:=zf.1 hk;exact lt_size_of_getElem? hz
   exact .inl ⟨k,by simpa[Zan,YY WY]using hk,hb_app u hb⟩
  .exact .inr z
 .have hgo:op.g=g:=by simpa[Zan,hop]using hg
  rcases hu op anj with h0|⟨p,h1,h2,h3⟩|h0
  .exact absurd (hgo.symm.trans h0) Bn
  .exact .inr ⟨p,h1,h2,hgo.symm.trans h3⟩
  .rw[h0]at hox;cases hox
variable {S L T₀ S' L':Nat->Prop}
def TI.grow (h:TI K Wg Shun H j n t)(hn:n<=n')(hS:∀b,S b->H.S p b\/n<=b)(hL:∀b,H.L p b->S b->L b):TI K Wg Shun (H.set p S L) j n' t:=by
 refine⟨h.nr,fun op hop=>MemAct.low_mono hn (h.seen op hop),h.kn,fun q hq b hb l hl=>?_,fun q hq b hb O4 l hl=>?_,h.wq,h.ov⟩
 .by_cases e:q=p
  .subst e
   rw[(AZ q S L).1]at hb;rcases hS b hb with x|x
   .exact h.pw q hq b x l hl
   .exact fun i a ha e _=>(VD h.seen ha (e▸hl) x).elim
  .rw[(BI e S L).1]at hb
   exact h.pw q hq b hb l hl
 .by_cases e:q=p
  .subst e
   rw[(AZ q S L).1]at hb;rw[(AZ q S L).2]at O4;rcases hS b hb with x|x
   .exact h.pr q hq b x (fun y=>O4 (hL b y hb)) l hl
   .exact fun i a ha e=>(VD h.seen ha (e▸hl) x).elim
  .rw[(BI e S L).1]at hb
   rw[(BI e S L).2]at O4;exact h.pr q hq b hb O4 l hl
def Fx (h:blk l=some b):l.isMemory=true:=by
 cases l<;>simp[blk]at h<;>rfl
def Le (h:M3 Wg l):blk l=some Wg:=by
 obtain⟨a,rfl,rfl⟩:=h;rfl
def TI.app (h:TI K Wg Shun H j n t)(A:Apt Wg H j n)(hp:p<=j)(hg:∀op∈u,op.g=ix K p)(hl:∀op∈u,op.act.low n)
 (ho:∀op∈u,∀x,op.act.touch?=some x->(M3 Wg x.loc/\x.kind≠ .plain/\(x.kind=.said->p=0))\/(∃b,blk x.loc=some b/\H.S p b/\(x.write=true->¬H.L p b))\/x.loc.isMemory=false):TI K Wg Shun H j n (t++u):=by
 have own:∀ {i:Nat} {a:Touch},ZaW (t++u) i=some a->(i<t.size/\ZaW t i=some a)\/(Knows (t++u) (ix K p) i/\(t++u).g? i=some (ix K p)/\∃op∈u,op.act.touch?=some a):=by
  intro i a ha;obtain⟨x,hx,Xb⟩:=ZbJ ha;rcases YH hx with⟨hi,jP⟩|⟨_,hxu⟩
  .exact .inl ⟨hi,by rw[ZcA jP];exact Xb⟩
  .have:=knows_own hx
   rw[hg x hxu]at this;exact .inr ⟨this,by simp[Zan,hx,hg x hxu],x,hxu,Xb⟩
 refine⟨fun said=>Zcq (h.nr said) hg fun i a ha op hop b hb hc=>?_,seen_app h.seen hl,fun i a ha hm=>?_,fun q hq b hb l Kt=>(h.pw q hq b hb l Kt).app fun op hop x hx e hw=>?_,
  fun q hq b hb O4 l Kt=>(h.pr q hq b hb O4 l Kt).app fun op hop x hx e=>?_,fun i a ha hw=>?_,fR h.ov fun op hop=>?_⟩
 .obtain⟨he,hm,hw,hk⟩:=hc
  rcases ho op hop b hb with⟨h1,h2,h3⟩|⟨c,h1,h2,h3⟩|h1
  .have:=h.wq i a ha (he▸h1)
   rcases hk with k|k|⟨_,k,k'⟩
   .exact this.1 k p hp
   .exact absurd k h2
   .have hp0:=h3 k'
    subst hp0;exact this.2 k
  .cases G0:b.write with
   |true=>exact h.pr p hp c h2 (h3 G0) b.loc h1 i a ha he
   |false=>
    have:a.write=true:=by
     rcases hw with x|x
     .exact x
     .rw[G0]at x;cases x
    exact h.pw p hp c h2 b.loc h1 i a ha he this
  .rw[<-he]at h1
   rw[h1]at hm;cases hm
 .rcases own ha with⟨hi,ha'⟩|⟨hk,oV,op,hop,hx⟩
  .rcases h.kn i a ha' hm with x|x|⟨q,h1,h2,h3⟩
   .exact .inl (x.app u)
   .exact .inr (.inl x)
   .refine .inr (.inr ⟨q,h1,h2,?_⟩)
    simpa[Zan,YY hi]using h3
  .cases p with
   |zero=>exact .inl hk
   |succ p=>exact .inr (.inr ⟨p+1,by omega,hp,oV⟩)
 .by_cases epq:p=q
  .subst epq;exact hg op hop
  .exfalso
   rcases ho op hop x hx with⟨h1,_⟩|⟨c,h1,h2,h3⟩|h1
   .rw[e]at h1
    have:=Le h1;rw[Kt]at this;cases this;exact A.wg q hq hb
   .rw[e,Kt]at h1
    cases h1;exact h3 hw (A.two p q hp hq epq b h2 hb)
   .rw[e,Fx Kt]at h1;cases h1
 .by_cases epq:p=q
  .subst epq;exact hg op hop
  .exfalso
   rcases ho op hop x hx with⟨h1,_⟩|⟨c,h1,h2,h3⟩|h1
   .rw[e]at h1
    have:=Le h1;rw[Kt]at this;cases this;exact A.wg q hq hb
   .rw[e,Kt]at h1
    cases h1;exact O4 (A.two q p hq hp (Zbq epq) b hb h2)
   .rw[e,Fx Kt]at h1;cases h1
 .rcases own ha with⟨hi,ha'⟩|⟨hk,oV,op,hop,hx⟩
  .exact⟨fun x q hq=>((h.wq i a ha' hw).1 x q hq).app u,fun x=>((h.wq i a ha' hw).2 x).app u⟩
  .rcases ho op hop a hx with⟨_,h2,h3⟩|⟨c,h1,h2,_⟩|h1
   .refine⟨fun x=>absurd x h2,fun x=>?_⟩
    have:=h3 x;subst this;exact hk
   .rw[Le hw]at h1
    cases h1;exact absurd h2 (A.wg p hp)
   .rw[Fx (Le hw)]at h1;cases h1
 .rw[hg op hop]
  cases p with
  |zero=>exact .inl rfl
  |succ p=>exact .inr (.inl ⟨p+1,by omega,hp,rfl⟩)
def TI.mute (h:TI K Wg Shun H j n t){g:Nat}(hg:∀op∈u,op.g=g)(hl:∀op∈u,op.act.low n)(hn:∀op∈u,op.act.touch?=none):TI K Wg Shun H j n (t++u):=by
 have old:∀ {i:Nat} {a:Touch},ZaW (t++u) i=some a->i<t.size/\ZaW t i=some a:=by
  intro i a ha;obtain⟨z,hz,hza⟩:=ZbJ ha;rcases YH hz with⟨hi,hz'⟩|⟨_,hzu⟩
  .exact⟨hi,by rw[ZcA hz'];exact hza⟩
  .rw[hn z hzu]at hza;cases hza
 refine⟨fun said=>Zcq (h.nr said) hg fun i a _ op hop b hb _=>(by rw[hn op hop]at hb;cases hb),seen_app h.seen hl,fun i a ha hm=>?_,fun q hq b hb l Kt=>(h.pw q hq b hb l Kt).app fun op hop x hx _ _=>(by rw[hn op hop]at hx;cases hx),
  fun q hq b hb O4 l Kt=>(h.pr q hq b hb O4 l Kt).app fun op hop x hx _=>(by rw[hn op hop]at hx;cases hx),fun i a ha hw=>?_,fR h.ov fun op hop=>.inr (.inr (hn op hop))⟩
 .obtain⟨hi,ha'⟩:=old ha
  rcases h.kn i a ha' hm with x|x|⟨q,h1,h2,h3⟩
  .exact .inl (x.app u)
  .exact .inr (.inl x)
  .refine .inr (.inr ⟨q,h1,h2,?_⟩)
   simpa[Zan,YY hi]using h3
 .obtain⟨hi,ha'⟩:=old ha
  exact⟨fun x q hq=>((h.wq i a ha' hw).1 x q hq).app u,fun x=>((h.wq i a ha' hw).2 x).app u⟩
variable {x y:MemOp}
def TI.fork (h:TI K Wg Shun H j n t)(hx:x.g=0/\x.act=.go (K+j))(hy:y.g=K+j/\y.act=.start)(h0:Deaf t 0=0)(hk:Deaf t (K+j)=0):
  TI K Wg Shun ((H.set (j+1) (H.S 0) (H.S 0)).set 0 (H.S 0) (H.S 0)) (j+1) n (t++ #[x,y]):=by
 have hm:∀op∈#[x,y],op=x\/op=y:=by intro op hop;simpa using hop
 have hnt:∀op∈#[x,y],op.act.touch?=none:=by
  intro op hop;rcases hm op hop with rfl|rfl
  .rw[hx.2];rfl
  .rw[hy.2];rfl
 have old:∀ {i:Nat} {a:Touch},ZaW (t++ #[x,y]) i=some a->i<t.size/\ZaW t i=some a:=by
  intro i a ha;obtain⟨z,hz,hza⟩:=ZbJ ha;rcases YH hz with⟨hi,hz'⟩|⟨_,hzu⟩
  .exact⟨hi,by rw[ZcA hz'];exact hza⟩
  .rw[hnt z hzu]at hza;cases hza
 have fk:∀ {i:Nat},Knows t 0 i->Knows (t++ #[x,y]) (K+j) i:=fun h=>fork_knows hx hy h0 hk h;have hw:∀q,q<=j+1->∀b,((H.set (j+1) (H.S 0) (H.S 0)).set 0 (H.S 0) (H.S 0)).S q b->∀l,blk l=some b->PermW (t++ #[x,y]) (ix K q) l:=by
  intro q hq b hb l hl i a ha e haw;obtain⟨_,ha'⟩:=old ha;by_cases e0:q=0
  .subst e0
   rw[(AZ 0 _ _).1]at hb;exact(h.pw 0 (Zn _) b hb l hl i a ha' e haw).app _
  .rw[(BI e0 _ _).1]at hb
   by_cases e1:q=j+1
   .subst e1
    rw[(AZ _ _ _).1]at hb;exact fk (h.pw 0 (Zn _) b hb l hl i a ha' e haw)
   .rw[(BI e1 _ _).1]at hb
    exact(h.pw q (by omega) b hb l hl i a ha' e haw).app _
 refine⟨fun said=>?_,seen_app h.seen (fun op hop=>?_),fun i a ha hmm=>?_,hw,fun q hq b hb O4 l hl=>?_,fun i a ha Du=>?_,fun i g oV Bn hc=>?_⟩
 .have e:t++ #[x,y]=(t++ #[x])++ #[y]:=by apply Array.ext';simp
  rw[e];refine Zcq (g:=K+j) (Zcq (g:=0) (h.nr said) (fun op hop=>by simp at hop;rw[hop];exact hx.1) (fun i a _ op hop b hb _=>(by rw[hnt op (by simp at hop⊢;exact .inl hop)]at hb;cases hb)))
   (fun op hop=>by simp at hop;rw[hop];exact hy.1) (fun i a _ op hop b hb _=>(by rw[hnt op (by simp at hop⊢;exact .inr hop)]at hb;cases hb))
 .rcases hm op hop with rfl|rfl
  .rw[hx.2];trivial
  .rw[hy.2];trivial
 .obtain⟨hi,ha'⟩:=old ha
  rcases h.kn i a ha' hmm with z|z|⟨q,h1,h2,h3⟩
  .exact .inl (z.app _)
  .exact .inr (.inl z)
  .refine .inr (.inr ⟨q,h1,by omega,?_⟩)
   simpa[Zan,YY hi]using h3
 .by_cases e0:q=0
  .subst e0
   rw[(AZ 0 _ _).1]at hb;rw[(AZ 0 _ _).2]at O4;exact absurd hb O4
  .rw[(BI e0 _ _).1]at hb
   rw[(BI e0 _ _).2]at O4;by_cases e1:q=j+1
   .subst e1
    rw[(AZ _ _ _).1]at hb;rw[(AZ _ _ _).2]at O4;exact absurd hb O4
   .rw[(BI e1 _ _).1]at hb
    rw[(BI e1 _ _).2]at O4;intro i a ha e;exact(h.pr q (by omega) b hb O4 l hl i a (old ha).2 e).app _
 .obtain⟨hi,ha'⟩:=old ha
  refine⟨fun z q hq=>?_,fun z=>((h.wq i a ha' Du).2 z).app _⟩;by_cases e1:q=j+1
  .subst e1
   exact fk ((h.wq i a ha' Du).1 z 0 (Zn _))
  .exact((h.wq i a ha' Du).1 z q (by omega)).app _
 .rcases fR h.ov (fun op hop=>.inr (.inr (hnt op hop))) i g oV Bn hc with z|⟨p,h1,h2,h3⟩
  .exact .inl z
  .exact .inr ⟨p,h1,by omega,h3⟩
def TI.vU (h:Past Shun n t)(hS:∀b,H.S 0 b->b<n/\∀l,blk l=some b->¬Shun l)(hWg:∀l,M3 Wg l->¬Shun l):TI K Wg Shun H 0 n t:=by
 have kn:∀b,(∀l,blk l=some b->¬Shun l)->∀l,blk l=some b->Perm t 0 l:=by
  intro b hb l hl i a ha e;rcases h.known i a ha (by rw[e];exact Fx hl) with x|⟨x,_⟩
  .exact x
  .exact absurd (e▸x) (hb l hl)
 refine⟨h.clean,h.seen,fun i a ha hm=>(h.known i a ha hm).imp id .inl,fun p hp b hb l hl=>?_,fun p hp b hb _ l hl=>?_,fun i a ha hw=>?_,fun i g h1 h2 h3=>.inl (h.over i g h1 h2 h3)⟩
 .obtain rfl:p=0:=by omega
  exact PermW.of (kn b (hS b hb).2 l hl)
 .obtain rfl:p=0:=by omega
  exact kn b (hS b hb).2 l hl
 .have k:Knows t 0 i:=by
   rcases h.known i a ha (Fx (Le hw)) with x|⟨x,_⟩
   .exact x
   .exact absurd x (hWg _ hw)
  refine⟨fun _ p hp=>?_,fun _=>k⟩;obtain rfl:p=0:=by omega
  exact k
end
end Go.Pair
namespace Go.Pair
open Go Go.Conc Go.FO
open Go.ConcN (PermW RelBy WgLive CTag phi pend isOpen isW3 isFin OpenSt AllQuit Mode WD Vc Ssum Fsum cnt sumTo upd)
open Go.ConcR (KK WgAt stA smA rd wr mk DC0 Bk)
section
variable(P:Zp)(ty:Zr)(Wg Ch:Nat)
section
variable(S:Nat->Prop)
def AtD4 (g:Zi)(w:Zc):Prop:=
 g.status=.running/\ZcJ P g=true/\(WgAt ty Wg w 0 0->∃g',zd P false g w=.go g' (w.setCell (smA Wg) (.int .u32 1)) (ZaD (smA Wg))/\∃q,ZcD P q 1 g')
def AtD3 (g:Zi)(w:Zc):Prop:=
 g.status=.running/\(WgAt ty Wg w 1 0->∃g',zd P false g w=.go g' (w.setCell (stA Wg) (.int .u64 0)) #[wr (stA Wg)]/\∃m,Goes P false (Ai ty Wg S) DC0 (AtD4 P ty Wg) m g' (w.setCell (stA Wg) (.int .u64 0)))
def AtD2 (g:Zi)(w:Zc):Prop:=
 g.status=.running/\(WgAt ty Wg w 1 0->∃g',zd P false g w=.go g' w #[rd (stA Wg)]/\∃m,Goes P false (Ai ty Wg S) DC0 (AtD3 P ty Wg S) m g' w)
def AtD1 (g:Zi)(w:Zc):Prop:=
 g.status=.running/\∀v wt:Nat,wt<=1->v<2147483647->WgAt ty Wg w ((v+1)*KK+wt) 0->
  ∃g',zd P false g w=.go g' (w.setCell (stA Wg) (.int .u64 (v*KK+wt))) #[rd (stA Wg),wr (stA Wg)]/\
   ((v=0/\wt=1)->∃m,Goes P false (Ai ty Wg S) DC0 (AtD2 P ty Wg S) m g' (w.setCell (stA Wg) (.int .u64 (v*KK+wt))))/\(¬(v=0/\wt=1)->∃q,ZcD P q 1 g')
def AtK1 (g:Zi)(w:Zc):Prop:=
 g.status=.running/\∃g',zd P false g w=.go g' w #[mk .disable]/\∃m,Goes P false (Ai ty Wg S) DC0 (AtD1 P ty Wg S) m g' w
def AtR0 (g:Zi)(w:Zc):Prop:=
 g.status=.running/\∃g',zd P false g w=.go g' w #[mk (.releaseMerge (stA Wg))]/\∃m,Goes P false (Ai ty Wg S) DC0 (AtK1 P ty Wg S) m g' w
end
abbrev Gu:=(Nat->Prop)->Ze->Zc->Prop
def AtSend (Pay:Gu):Ci:=fun S g w=>
 g.status=.running/\∃Bw v z,zd P false g w=.comm Bw #[scase Ch v z] true .send w #[]/\Pay S v w/\∃m,Goes P false (Ai ty Wg S) DC0 (AtR0 P ty Wg S) m (YZ Bw Zf) w
section
variable(Anch AU:Ci)(S:Nat->Prop)
def AtAcq (g:Zi)(w:Zc):Prop:=
 g.status=.running/\∃g',zd P true g w=.go g' w #[mk (.acquire (stA Wg))]/\∃m,Goes P true (Ai ty Wg S) DC0 (Anch S) m g' w
def AtKe (g:Zi)(w:Zc):Prop:=
 g.status=.running/\∃g',zd P true g w=.go g' w #[mk .enable]/\∃m,Goes P true (Ai ty Wg S) DC0 (AtAcq P ty Wg Anch S) m g' w
def AtW4 (g:Zi)(w:Zc):Prop:=
 g.status=.running/\(WgAt ty Wg w 0 0->∃g',zd P true g w=.go g' w #[rd (stA Wg)]/\∃m,Goes P true (Ai ty Wg S) DC0 (AtKe P ty Wg Anch S) m g' w)
def AtW3 (g:Zi)(w:Zc):Prop:=
 g.status=.running/\g.offers=none/\
  ((∃st,WgAt ty Wg w st 0)->zd P true g w=.go {g with status:=.blocked} w #[])/\
  (WgAt ty Wg w 0 1->∃g',zd P true g w=.go g' (w.setCell (smA Wg) (.int .u32 0)) (ZaD (smA Wg))/\∃m,Goes P true (Ai ty Wg S) DC0 (AtW4 P ty Wg Anch S) m g' (w.setCell (smA Wg) (.int .u32 0)))
def agQ (g:Zi)(w:Zc):Prop:=
 g.status=.running/\∃g',zd P true g w=.go g' w #[mk (.write (smA Wg))]/\∃m,Goes P true (Ai ty Wg S) DC0 (AtW3 P ty Wg Anch S) m g' w
def AtW2 (vs:Nat)(g:Zi)(w:Zc):Prop:=
 g.status=.running/\∀v:Nat,v<2147483648->WgAt ty Wg w (v*KK) 0->
  (v=vs->∃g',zd P true g w=.go g' (w.setCell (stA Wg) (.int .u64 (v*KK+1))) #[rd (stA Wg),wr (stA Wg)]/\∃m,Goes P true (Ai ty Wg S) DC0 (agQ P ty Wg Anch S) m g' (w.setCell (stA Wg) (.int .u64 (v*KK+1))))/\
  (v≠vs->∃g',zd P true g w=.go g' w #[rd (stA Wg)]/\∃m,Goes P true (Ai ty Wg S) DC0 (AU S) m g' w)
def AtW1 (g:Zi)(w:Zc):Prop:=
 g.status=.running/\∀v:Nat,v<2147483648->WgAt ty Wg w (v*KK) 0->∃g',zd P true g w=.go g' w #[rd (stA Wg)]/\
  (v=0->∃m,Goes P true (Ai ty Wg S) DC0 (AtKe P ty Wg Anch S) m g' w)/\(v≠0->∃m,Goes P true (Ai ty Wg S) DC0 (AtW2 P ty Wg Anch AU S v) m g' w)
end
def AtKd (AU:Ci):Ci:=fun S g w=>
 g.status=.running/\∃g',zd P true g w=.go g' w #[mk .disable]/\∃m,Goes P true (Ai ty Wg S) DC0 (AU S) m g' w
section
variable(Pay:Gu)(Next:Ci)(S:Nat->Prop)
def AtGoS (g:Zi)(w:Zc):Prop:=
 g.status=.running/\∃g' child,zd P true g w=.spawn g' child w #[]/\Bf P false ty Wg S (AtSend P ty Wg Ch Pay) S child w/\Next S g' w
def AtKeS (g:Zi)(w:Zc):Prop:=
 g.status=.running/\∃g',zd P true g w=.go g' w #[mk .enable]/\∃m,Goes P true (Ai ty Wg S) DC0 (AtGoS P ty Wg Ch Pay Next S) m g' w
def agR (g:Zi)(w:Zc):Prop:=
 g.status=.running/\∃g',zd P true g w=.go g' w #[mk (.read (smA Wg))]/\∃m,Goes P true (Ai ty Wg S) DC0 (AtKeS P ty Wg Ch Pay Next S) m g' w
def AtA1 (g:Zi)(w:Zc):Prop:=
 g.status=.running/\∀v:Nat,v<2147483647->WgAt ty Wg w (v*KK) 0->
  ∃g',zd P true g w=.go g' (w.setCell (stA Wg) (.int .u64 ((v+1)*KK))) #[rd (stA Wg),wr (stA Wg)]/\
   (v=0->∃m,Goes P true (Ai ty Wg S) DC0 (agR P ty Wg Ch Pay Next S) m g' (w.setCell (stA Wg) (.int .u64 ((v+1)*KK))))/\(v≠0->∃m,Goes P true (Ai ty Wg S) DC0 (AtKeS P ty Wg Ch Pay Next S) m g' (w.setCell (stA Wg) (.int .u64 ((v+1)*KK))))
end
def AtKdS (Pay:Gu)(Next:Ci):Ci:=fun S g w=>
 g.status=.running/\∃g',zd P true g w=.go g' w #[mk .disable]/\∃m,Goes P true (Ai ty Wg S) DC0 (AtA1 P ty Wg Ch Pay Next S) m g' w
def Nxt (Pay:Nat->Gu)(n:Nat)(AU:Ci):Nat->Ci
 |0=>fun S g w=>Bf P true ty Wg S (AtKd P ty Wg AU) S g w
 |r+1=>fun S g w=>Bf P true ty Wg S (AtKdS P ty Wg Ch (Pay (n - (r+1))) (Nxt Pay n AU r)) S g w
end
section
variable(P:Zp)(ty:Zr)(Wg Ch:Nat)
inductive WSit (Pay:Gu)(S L:Nat->Prop):Nat->Nat->Nat->Nat->Fuel P ty Wg->Zi->Zc->Prop
 |wk {g:Zi} {w x:Zc} (h:Bf P false ty Wg L (AtSend P ty Wg Ch Pay) S g x) (hr:Ai ty Wg S x w):WSit Pay S L 7 1 0 0 h.fuel g w
 |r0 {X:Fuel P ty Wg} {m:Nat} {g:Zi} {w:Zc}:Goes P false (Ai ty Wg S) DC0 (AtR0 P ty Wg S) m g w->WSit Pay S L 7 0 m 0 X g w
 |k1 {X:Fuel P ty Wg} {m:Nat} {g:Zi} {w:Zc}:Goes P false (Ai ty Wg S) DC0 (AtK1 P ty Wg S) m g w->WSit Pay S L 6 0 m 0 X g w
 |d1 {X:Fuel P ty Wg} {m:Nat} {g:Zi} {w:Zc}:Goes P false (Ai ty Wg S) DC0 (AtD1 P ty Wg S) m g w->WSit Pay S L 5 0 m 1 X g w
 |d2 {X:Fuel P ty Wg} {m:Nat} {g:Zi} {w:Zc}:Goes P false (Ai ty Wg S) DC0 (AtD2 P ty Wg S) m g w->WSit Pay S L 4 0 m 1 X g w
 |d3 {X:Fuel P ty Wg} {m:Nat} {g:Zi} {w:Zc}:Goes P false (Ai ty Wg S) DC0 (AtD3 P ty Wg S) m g w->WSit Pay S L 3 0 m 1 X g w
 |d4 {X:Fuel P ty Wg} {m:Nat} {g:Zi} {w:Zc}:Goes P false (Ai ty Wg S) DC0 (AtD4 P ty Wg) m g w->WSit Pay S L 2 0 m 1 X g w
 |quit {X:Fuel P ty Wg} {q d:Nat} {g:Zi} {w:Zc}:ZcD P q d g->WSit Pay S L 1 0 q d X g w
section
variable(Pay:Nat->Gu)(Anch AU:Ci)(S L:Nat->Prop)
inductive CSit:CTag->Nat->Nat->Nat->Fuel P ty Wg->Nat->Zi->Zc->Prop
 |skd {r:Nat} {g:Zi} {w x:Zc} (hr:r<2) (h:Bf P true ty Wg L (AtKdS P ty Wg Ch (Pay (2 - (r+1))) (Nxt P ty Wg Ch Pay 2 AU r)) S g x) (hw:Ai ty Wg S x w):CSit (.sp r 5) 1 (2 - (r+1)) 0 h.fuel 0 g w
 |sa1 {X:Fuel P ty Wg} {r m:Nat} {g:Zi} {w:Zc}:r<2->Goes P true (Ai ty Wg S) DC0 (AtA1 P ty Wg Ch (Pay (2 - (r+1))) (Nxt P ty Wg Ch Pay 2 AU r) S) m g w->CSit (.sp r 4) 1 (2 - (r+1)) m X 1 g w
 |ssr {X:Fuel P ty Wg} {r m:Nat} {g:Zi} {w:Zc}:r<2->Goes P true (Ai ty Wg S) DC0 (agR P ty Wg Ch (Pay (2 - (r+1))) (Nxt P ty Wg Ch Pay 2 AU r) S) m g w->CSit (.sp r 3) 1 (2 - (r+1)) m X 1 g w
 |ske {X:Fuel P ty Wg} {r m:Nat} {g:Zi} {w:Zc}:r<2->Goes P true (Ai ty Wg S) DC0 (AtKeS P ty Wg Ch (Pay (2 - (r+1))) (Nxt P ty Wg Ch Pay 2 AU r) S) m g w->CSit (.sp r 3) 0 (2 - (r+1)) m X 1 g w
 |sgo {X:Fuel P ty Wg} {r m:Nat} {g:Zi} {w:Zc}:r<2->Goes P true (Ai ty Wg S) DC0 (AtGoS P ty Wg Ch (Pay (2 - (r+1))) (Nxt P ty Wg Ch Pay 2 AU r) S) m g w->CSit (.sp r 2) 0 (2 - (r+1)) m X 0 g w
 |kd {g:Zi} {w x:Zc} (h:Bf P true ty Wg L (AtKd P ty Wg AU) S g x) (hw:Ai ty Wg S x w):CSit .kd 0 2 0 h.fuel 0 g w
 |anch {X:Fuel P ty Wg} {m:Nat} {g:Zi} {w:Zc}:Goes P true (Ai ty Wg S) DC0 (AU S) m g w->CSit .anch 0 2 m X 1 g w
 |w1 {X:Fuel P ty Wg} {m:Nat} {g:Zi} {w:Zc}:Goes P true (Ai ty Wg S) DC0 (AtW1 P ty Wg Anch AU S) m g w->CSit .w1 0 2 m X 1 g w
 |w2 {X:Fuel P ty Wg} {vs m:Nat} {g:Zi} {w:Zc}:Goes P true (Ai ty Wg S) DC0 (AtW2 P ty Wg Anch AU S vs) m g w->CSit (.w2 vs) 0 2 m X 1 g w
 |sw {X:Fuel P ty Wg} {m:Nat} {g:Zi} {w:Zc}:Goes P true (Ai ty Wg S) DC0 (agQ P ty Wg Anch S) m g w->CSit .w3 1 2 m X 1 g w
 |w3 {X:Fuel P ty Wg} {m:Nat} {g:Zi} {w:Zc}:Goes P true (Ai ty Wg S) DC0 (AtW3 P ty Wg Anch S) m g w->CSit .w3 0 2 (m+1) X 1 g w
 |blk {X:Fuel P ty Wg} {g:Zi} {w:Zc}:(∀w₁,Ai ty Wg S w w₁->AtW3 P ty Wg Anch S g w₁)->CSit .blk 0 2 0 X 1 {g with status:=.blocked} w
 |w4 {X:Fuel P ty Wg} {m:Nat} {g:Zi} {w:Zc}:Goes P true (Ai ty Wg S) DC0 (AtW4 P ty Wg Anch S) m g w->CSit .w4 0 2 m X 1 g w
 |ke {X:Fuel P ty Wg} {m:Nat} {g:Zi} {w:Zc}:Goes P true (Ai ty Wg S) DC0 (AtKe P ty Wg Anch S) m g w->CSit .ke 0 2 m X 1 g w
 |acq {X:Fuel P ty Wg} {m:Nat} {g:Zi} {w:Zc}:Goes P true (Ai ty Wg S) DC0 (AtAcq P ty Wg Anch S) m g w->CSit .acq 0 2 m X 0 g w
 |ret {X:Fuel P ty Wg} {m:Nat} {g:Zi} {w:Zc}:Goes P true (Ai ty Wg S) DC0 (Anch S) m g w->CSit .ret 0 2 m X 0 g w
end
end
section
variable {P:Zp}{ty:Zr}{Wg Ch:Nat}{Pq:Gu}{Pay:Nat->Gu}{Anch AU:Ci}{S L:Nat->Prop}{s e m d:Nat}{X:Fuel P ty Wg}{g:Zi}{w w₁:Zc}
def Cy:∀a b c,Ai ty Wg S a b->Ai ty Wg S b c->Ai ty Wg S a c:=fun _ _ _ h k=>h.trans k
def WSit.rely (h:WSit P ty Wg Ch Pq S L s e m d X g w)(hr:Ai ty Wg S w w₁):WSit P ty Wg Ch Pq S L s e m d X g w₁:=by
 cases h with
 |wk h k=>exact .wk h (k.trans hr)
 |r0 h=>exact .r0 (Yh Cy h hr)
 |k1 h=>exact .k1 (Yh Cy h hr)
 |d1 h=>exact .d1 (Yh Cy h hr)
 |d2 h=>exact .d2 (Yh Cy h hr)
 |d3 h=>exact .d3 (Yh Cy h hr)
 |d4 h=>exact .d4 (Yh Cy h hr)
 |quit h=>exact .quit h
def Bf.running {St:Ci}{mn:Bool}{Lk:Nat->Prop}(h:Bf P mn ty Wg Lk St S g w)(hs:∀S g w,St S g w->g.status=.running):g.status=.running:=by
 cases h with
 |stop h=>exact hs _ _ _ (h w (Ai.refl w))
 |step h=>exact h
def WSit.status (h:WSit P ty Wg Ch Pq S L s e m d X g w):g.status=.running\/(g.status=.finished/\s=1):=by
 cases h with
 |wk h _=>exact .inl (h.running fun _ _ _ x=>x.1)
 |r0 h=>exact .inl (zy (fun _ _ x=>x.1) w (Ai.refl w) h)
 |k1 h=>exact .inl (zy (fun _ _ x=>x.1) w (Ai.refl w) h)
 |d1 h=>exact .inl (zy (fun _ _ x=>x.1) w (Ai.refl w) h)
 |d2 h=>exact .inl (zy (fun _ _ x=>x.1) w (Ai.refl w) h)
 |d3 h=>exact .inl (zy (fun _ _ x=>x.1) w (Ai.refl w) h)
 |d4 h=>exact .inl (zy (fun _ _ x=>x.1) w (Ai.refl w) h)
 |quit h=>exact h.status.imp id fun x=>⟨x,rfl⟩
def WSit.woken (h:WSit P ty Wg Ch Pq S L s e m d X g w)(a a':Zi)(w':Zc):woken P a a' w' g=g:=by
 unfold Go.Conc.woken;split
 .exact again_running _ (h.status.imp id And.left)
 .rfl
def CSit.rely {tag:CTag}{j:Nat}(h:CSit P ty Wg Ch Pay Anch AU S L tag s j m X d g w)(hr:Ai ty Wg S w w₁):CSit P ty Wg Ch Pay Anch AU S L tag s j m X d g w₁:=by
 cases h with
 |skd hn h k=>exact .skd hn h (k.trans hr)
 |sa1 hn h=>exact .sa1 hn (Yh Cy h hr)
 |ssr hn h=>exact .ssr hn (Yh Cy h hr)
 |ske hn h=>exact .ske hn (Yh Cy h hr)
 |sgo hn h=>exact .sgo hn (Yh Cy h hr)
 |kd h k=>exact .kd h (k.trans hr)
 |anch h=>exact .anch (Yh Cy h hr)
 |w1 h=>exact .w1 (Yh Cy h hr)
 |w2 h=>exact .w2 (Yh Cy h hr)
 |sw h=>exact .sw (Yh Cy h hr)
 |w3 h=>exact .w3 (Yh Cy h hr)
 |blk h=>exact .blk (fun w₂ Cw=>h w₂ (hr.trans Cw))
 |w4 h=>exact .w4 (Yh Cy h hr)
 |ke h=>exact .ke (Yh Cy h hr)
 |acq h=>exact .acq (Yh Cy h hr)
 |ret h=>exact .ret (Yh Cy h hr)
def CSit.status {tag:CTag}{j:Nat}(Ta:∀S g w,AU S g w->g.status=.running)(hA:∀S g w,Anch S g w->g.status=.running)(h:CSit P ty Wg Ch Pay Anch AU S L tag s j m X d g w):(g.status=.running/\tag≠ .blk)\/(g.status=.blocked/\tag=.blk):=by
 have r:=Ai.refl (ty:=ty) (Wg:=Wg) (S:=S) w;cases h with
 |skd _ h _=>exact .inl ⟨h.running fun _ _ _ x=>x.1,by simp⟩
 |sa1 _ h=>exact .inl ⟨zy (fun _ _ x=>x.1) w r h,by simp⟩
 |ssr _ h=>exact .inl ⟨zy (fun _ _ x=>x.1) w r h,by simp⟩
 |ske _ h=>exact .inl ⟨zy (fun _ _ x=>x.1) w r h,by simp⟩
 |sgo _ h=>exact .inl ⟨zy (fun _ _ x=>x.1) w r h,by simp⟩
 |kd h _=>exact .inl ⟨h.running fun _ _ _ x=>x.1,by simp⟩
 |anch h=>exact .inl ⟨zy (Ta S) w r h,by simp⟩
 |w1 h=>exact .inl ⟨zy (fun _ _ x=>x.1) w r h,by simp⟩
 |w2 h=>exact .inl ⟨zy (fun _ _ x=>x.1) w r h,by simp⟩
 |sw h=>exact .inl ⟨zy (fun _ _ x=>x.1) w r h,by simp⟩
 |w3 h=>exact .inl ⟨zy (fun _ _ x=>x.1) w r h,by simp⟩
 |blk h=>exact .inr ⟨rfl,rfl⟩
 |w4 h=>exact .inl ⟨zy (fun _ _ x=>x.1) w r h,by simp⟩
 |ke h=>exact .inl ⟨zy (fun _ _ x=>x.1) w r h,by simp⟩
 |acq h=>exact .inl ⟨zy (fun _ _ x=>x.1) w r h,by simp⟩
 |ret h=>exact .inl ⟨zy (hA S) w r h,by simp⟩
variable {p b i j k s' e' m' dd' Ld f' n:Nat}
def CSit.wokenBy {tag:CTag}(Ta:∀S g w,AU S g w->g.status=.running)(hA:∀S g w,Anch S g w->g.status=.running)(h:CSit P ty Wg Ch Pay Anch AU S L tag s j m X d g w)(hr:Ai ty Wg S w w₁)(a a':Zi):
  ∃Cs m',CSit P ty Wg Ch Pay Anch AU S L Cs s j m' X d (woken P a a' w₁ g) w₁/\(Cs=tag\/(tag=.blk/\Cs=.w3))/\(ZcJ P a=true->a'.status=.running->Cs≠ .blk):=by
 have h':=h.rely hr;unfold Go.Conc.woken;split
 .rcases h'.status Ta hA with⟨hs,Bn⟩|⟨_,rfl⟩
  .exact⟨tag,m,by rw[again_running _ (.inl hs)];exact h',.inl rfl,fun _ _=>Bn⟩
  .cases h' with
   |blk hb=>
    rename_i g0;have h3:=hb w₁ (Ai.refl w₁);exact⟨.w3,0+1,by rw[Go.ConcR.again_blocked h3.1 h3.2.1];exact .w3 (Z2 hb),.inr ⟨rfl,rfl⟩,fun _ _=>by simp⟩
 .rename_i hc
  exact⟨tag,m,h',.inl rfl,fun h1 h2=>absurd (by simp[h1,h2]) hc⟩
end
end Go.Pair
namespace Go.Pair
open Go Go.Conc Go.FO
open Go.ConcN (PermW RelBy WgLive CTag phi pend isOpen isW3 isFin OpenSt AllQuit Mode WD Vc Ssum Fsum cnt sumTo upd upd_same upd_ne get_map_set get_map_set_same Deaf_still)
open Go.ConcR (KK WgAt stA smA rd wr mk DC0 Bk g_of_ofEvents)
structure Am (ty:Zr)(Wg Ch:Nat)(S L:Nat->Prop)(w w':Zc):Prop where
 size:w.heap.size<=w'.heap.size
 still:∀b,b<w.heap.size->¬S b\/L b->b≠Wg->b≠Ch->w'.heap[b]?=w.heap[b]?
 os:w'.os=w.os
 tape:w'.tape=w.tape
 output:w'.output=w.output
 live:WgLive ty Wg w->WgLive ty Wg w'
section
variable {ty:Zr}{Wg Ch:Nat}{S L:Nat->Prop}{w w':Zc}{es:Array zc}
def Am.jQ (h:Mq S L w w' es)(hW:¬S Wg)(AA:Wg<w.heap.size):Am ty Wg Ch S L w w':=
 ⟨h.size,fun b hb hx _ _=>h.still b hb hx,h.os,h.tape,h.output,fun⟨st,sm,hl⟩=>⟨st,sm,(h.still Wg AA (.inl hW)).trans hl⟩⟩
end
def qL (Ch:Nat)(j:Nat)(E:Nat->Nat)(vals:Nat->Ze)(w:Zc):Prop:=
 ∃(ord:List Nat) (tm:Bool),ord.Nodup/\(∀i,i∈ord↔(i<j/\E i=0))/\w.heap[Ch]?=some (.chan 2 (ord.map vals).toArray false ord.length 0 tm)
abbrev Jp (Wg T₀:Nat)(t:Y8)(g r:Nat):Prop:=RelBy (stA Wg) t g r/\T₀<=r/\∀k a,ZaW t k=some a->a.loc.isMemory=true->t.g? k=some g->k<=r\/(M3 Wg a.loc/\a.kind=.atomic)
section
variable(P:Zp)(ty:Zr)(Wg Ch:Nat)(Pay:Nat->Gu)(K T₀:Nat)(Shun:Loc->Prop)(w₀:Zc)(S₀ L₀:Nat->Prop)
structure Com (j:Nat)(gs:Array Zi)(w:Zc)(t:Y8)(D:Nat->WD)(E:Nat->Nat)(X:Nat->Fuel P ty Wg)(H:JZ)(q:Nat->Nat)(d0:Nat)(vals:Nat->Ze):Prop where
 size:gs.size=K+j
 pos:1<=K
 wk:∀i,i<j->∃g,gs[K+i]?=some g/\WSit P ty Wg Ch (Pay i) (H.S (i+1)) (H.L (i+1)) (D i).stage (E i) (D i).fuel (D i).deaf (X i) g w
 old:∀i g,0<i->i<K->gs[i]?=some g->ZcD P (q i) (Deaf t i) g
 ti:TI K Wg Shun H j w.heap.size t
 Pr:Apt Wg H j w.heap.size
 norel:∀k,T₀<=k->t.act? k≠some (.mark (.release (stA Wg)))
 told:T₀<=t.size
 deaf0:Deaf t 0=d0
 deafW:∀i,i<j->Deaf t (K+i)=(D i).deaf
 above:∀i,K+j<=i->Deaf t i=0
 rel:∀i,i<j->(D i).stage<=6->∃r,Jp Wg T₀ t (K+i) r
 I5:Wg<w.heap.size
 UR:Ch<w.heap.size
 cw:Ch≠Wg
 Ps:∀p,p<=j->¬H.S p Ch
 ch:qL Ch j E vals w
 pay:∀i,i<j->E i=0->Pay i (H.S (i+1)) (vals i) w
 dn:∀b,b<w₀.heap.size->b≠Wg->b≠Ch->(¬S₀ b\/L₀ b)->w.heap[b]?=w₀.heap[b]?
 grown:w₀.heap.size<=w.heap.size
 os:w.os=w₀.os
 tape:w.tape=w₀.tape
 output:w.output=w₀.output
 Fp:∀p,p<=j->∀b,H.S p b->S₀ b\/w₀.heap.size<=b
 mi:∀p,p<=j->∀b,L₀ b->H.S p b->S₀ b->H.L p b
 l0:∀b,L₀ b->b<w₀.heap.size
 e01:∀i,i<j->(D i).stage<=6->E i=0
end
section
variable {P:Zp}{ty:Zr}{Wg Ch:Nat}{Pay:Nat->Gu}{K T₀:Nat}{Shun:Loc->Prop}{w₀:Zc}{S₀ L₀:Nat->Prop}
 {j:Nat} {gs:Array Zi} {w w':Zc} {t u:Y8} {D:Nat->WD} {E:Nat->Nat} {X:Nat->Fuel P ty Wg} {H:JZ} {q:Nat->Nat} {d0:Nat} {vals:Nat->Ze}
def L0 {T₀:Nat}{a:Addr}{t u:Y8}(h:∀k,T₀<=k->t.act? k≠some (.mark (.release a)))(hu:∀op∈u,op.act≠ .mark (.release a)):∀k,T₀<=k->(t++u).act? k≠some (.mark (.release a)):=by
 intro i hk hi;obtain⟨op,ho,hoa⟩:=zf.1 hi;rcases YH ho with⟨_,aM⟩|⟨_,hou⟩
 .exact h i hk (by rw[act?_of aM,hoa])
 .exact hu op hou hoa
def N_ {T₀:Nat}{t u:Y8}(h:T₀<=t.size):T₀<=(t++u).size:=by
 rw[Array.size_append];omega
def Jq (ty:Zr)(Wg:Nat)(Pay:Nat->Gu):Prop:=∀i S v w w',Pay i S v w->Ai ty Wg S w w'->Pay i S v w'
variable {p b i k s' e' m' dd' d Ld f' m n:Nat}
def Com.Xc (h:Com P ty Wg Ch Pay K T₀ Shun w₀ S₀ L₀ j gs w t D E X H q d0 vals)(hp:p<=j)(T:Am ty Wg Ch (H.S p) (H.L p) w w'){p':Nat}(Xd:p'<=j)(Bn:p'≠p):Ai ty Wg (H.S p') w w':=by
 refine⟨⟨fun b hb=>?_,T.size,T.os⟩,T.live⟩;refine T.still b (h.Pr.low p' Xd b hb) ?_ (fun e=>h.Pr.wg p' Xd (e▸hb)) (fun e=>h.Ps p' Xd (e▸hb));by_cases hx:H.S p b
 .exact .inr (h.Pr.two p p' hp Xd (Zbq Bn) b hx hb)
 .exact .inl hx
def Com.Xe (h:Com P ty Wg Ch Pay K T₀ Shun w₀ S₀ L₀ j gs w t D E X H q d0 vals)(_hp:p<=j)(Ek:w.heap.size<=w'.heap.size):Apt Wg (H.set p (Ip (H.S p) w w') (H.L p)) j w'.heap.size:=by
 refine⟨fun a c ha hc Bn b hb GZ=>?_,fun a ha hb=>?_,fun a ha b hb=>?_⟩
 .by_cases e:a=p
  .subst e
   rw[(AZ _ _ _).1]at hb;rw[(BI (Zbq Bn) _ _).1]at GZ;rw[(AZ _ _ _).2];rcases hb with x|⟨x,_⟩
   .exact h.Pr.two a c ha hc Bn b x GZ
   .have:=h.Pr.low c hc b GZ;omega
  .rw[(BI e _ _).1]at hb
   rw[(BI e _ _).2];by_cases e':c=p
   .subst e'
    rw[(AZ _ _ _).1]at GZ;rcases GZ with x|⟨x,_⟩
    .exact h.Pr.two a c ha hc Bn b hb x
    .have:=h.Pr.low a ha b hb;omega
   .rw[(BI e' _ _).1]at GZ
    exact h.Pr.two a c ha hc Bn b hb GZ
 .by_cases e:a=p
  .subst e
   rw[(AZ _ _ _).1]at hb;rcases hb with x|⟨x,_⟩
   .exact h.Pr.wg a ha x
   .have:=h.I5;omega
  .rw[(BI e _ _).1]at hb
   exact h.Pr.wg a ha hb
 .by_cases e:a=p
  .subst e
   rw[(AZ _ _ _).1]at hb;rcases hb with x|⟨_,x⟩
   .exact Zm (h.Pr.low a ha b x) Ek
   .exact x
  .rw[(BI e _ _).1]at hb
   exact Zm (h.Pr.low a ha b hb) Ek
def Com.qM (h:Com P ty Wg Ch Pay K T₀ Shun w₀ S₀ L₀ j gs w t D E X H q d0 vals)(hp:p<=j)(Ek:w.heap.size<=w'.heap.size)(hg:∀op∈u,op.g=ix K p)(hl:∀op∈u,op.act.low w'.heap.size)
 (ho:∀op∈u,∀x,op.act.touch?=some x->(M3 Wg x.loc/\x.kind≠ .plain/\(x.kind=.said->p=0))\/(∃b,blk x.loc=some b/\Ip (H.S p) w w' b/\(x.write=true->¬H.L p b))\/x.loc.isMemory=false):
  TI K Wg Shun (H.set p (Ip (H.S p) w w') (H.L p)) j w'.heap.size (t++u):=by
 refine TI.app (h.ti.grow Ek (fun b hb=>hb.imp id And.left) (fun b x _=>x)) (h.Xe hp Ek) hp hg hl fun op hop x hx=>?_;rcases ho op hop x hx with y|⟨b,h1,h2,h3⟩|y
 .exact .inl y
 .exact .inr (.inl ⟨b,h1,by rw[(AZ _ _ _).1];exact h2,by rw[(AZ _ _ _).2];exact h3⟩)
 .exact .inr (.inr y)
def Com.at (h:Com P ty Wg Ch Pay K T₀ Shun w₀ S₀ L₀ j gs w t D E X H q d0 vals)(hP:Jq ty Wg Pay)(d:Nat):Com P ty Wg Ch Pay K T₀ Shun w₀ S₀ L₀ j gs (w.at d) t D E X H q d0 vals:=
 ⟨h.size,h.pos,fun i hi=>let⟨g,hg,hs⟩:=h.wk i hi;⟨g,hg,hs.rely (Ai.at w d)⟩,h.old,h.ti,h.Pr,h.norel,h.told,h.deaf0,h.deafW,h.above,h.rel,h.I5,h.UR,h.cw,h.Ps,h.ch,
  fun i hi he=>hP i _ _ _ _ (h.pay i hi he) (Ai.at w d),h.dn,h.grown,h.os,h.tape,h.output,h.Fp,h.mi,h.l0,h.e01⟩
def Com.Tb (h:Com P ty Wg Ch Pay K T₀ Shun w₀ S₀ L₀ j gs w t D E X H q d0 vals)(hp:p<=j)(_hsz:w.heap.size<=w'.heap.size):
  (∀a,a<=j->¬(H.set p (Ip (H.S p) w w') (H.L p)).S a Ch)/\(∀a,a<=j->∀b,(H.set p (Ip (H.S p) w w') (H.L p)).S a b->S₀ b\/w₀.heap.size<=b)/\
  (∀a,a<=j->∀b,L₀ b->(H.set p (Ip (H.S p) w w') (H.L p)).S a b->S₀ b->(H.set p (Ip (H.S p) w w') (H.L p)).L a b):=by
 refine⟨fun a ha hb=>?_,fun a ha b hb=>?_,fun a ha b hl hb h0=>?_⟩
 .by_cases e:a=p
  .subst e
   rw[(AZ _ _ _).1]at hb;rcases hb with x|⟨x,_⟩
   .exact h.Ps a ha x
   .have:=h.UR;omega
  .rw[(BI e _ _).1]at hb
   exact h.Ps a ha hb
 .by_cases e:a=p
  .subst e
   rw[(AZ _ _ _).1]at hb;rcases hb with x|⟨x,_⟩
   .exact h.Fp a ha b x
   .exact .inr (Zt h.grown x)
  .rw[(BI e _ _).1]at hb
   exact h.Fp a ha b hb
 .by_cases e:a=p
  .subst e
   rw[(AZ _ _ _).1]at hb;rw[(AZ _ _ _).2];rcases hb with x|⟨x,y⟩
   .exact h.mi a ha b hl x h0
   .have:=h.l0 b hl
    have:=h.grown;omega
  .rw[(BI e _ _).1]at hb
   rw[(BI e _ _).2];exact h.mi a ha b hl hb h0
structure Lf (Wg K:Nat)(H:JZ)(p:Nat)(w w':Zc)(u:Y8):Prop where
 g:∀op∈u,op.g=ix K p
 low:∀op∈u,op.act.low w'.heap.size
 ok:∀op∈u,∀x,op.act.touch?=some x->(M3 Wg x.loc/\x.kind≠ .plain/\(x.kind=.said->p=0))\/(∃b,blk x.loc=some b/\Ip (H.S p) w w' b/\(x.write=true->¬H.L p b))\/x.loc.isMemory=false
 norel:∀op∈u,op.act≠ .mark (.release (stA Wg))
variable {a:Touch}
def Oa (h:ZaW (t++u) k=some a){g:Nat}(hu:∀op∈u,op.g≠g)(hg:(t++u).g? k=some g):ZaW t k=some a/\t.g? k=some g:=by
 obtain⟨x,hx,Xb⟩:=ZbJ h;rcases YH hx with⟨hi,jP⟩|⟨_,hxu⟩
 .exact⟨by rw[ZcA jP];exact Xb,by simpa[Zan,YY hi]using hg⟩
 .have:x.g=g:=by simpa[Zan,hx]using hg
  exact absurd this (hu x hxu)
variable {gs':Array Zi}
variable {g g' a':Zi}
def Com.stepW (h:Com P ty Wg Ch Pay K T₀ Shun w₀ S₀ L₀ j gs w t D E X H q d0 vals)(hP:Jq ty Wg Pay)(hi:i<j){x':Fuel P ty Wg}{vals':Nat->Ze}(T:Am ty Wg Ch (H.S (i+1)) (H.L (i+1)) w w')(U:Lf Wg K H (i+1) w w' u)
 (D5:WSit P ty Wg Ch (Pay i) (Ip (H.S (i+1)) w w') (H.L (i+1)) s' e' m' dd' x' g' w')
 (agT:Deaf (t++u) (K+i)=dd')
 (hrel:s'<=6->∃r,Jp Wg T₀ (t++u) (K+i) r)
 (hz:gs'.size=gs.size) (oV:gs'[K+i]?=some g') (hgo:∀k,0<k->k≠K+i->gs'[k]?=gs[k]?)
 (qN:qL Ch j (upd E i e') vals' w') (hv:∀a,a≠i->vals' a=vals a) (mr:e'=0->Pay i (Ip (H.S (i+1)) w w') (vals' i) w') (he:s'<=6->e'=0):
  Com P ty Wg Ch Pay K T₀ Shun w₀ S₀ L₀ j gs' w' (t++u) (upd D i ⟨s',m',dd'⟩) (upd E i e') (upd X i x') (H.set (i+1) (Ip (H.S (i+1)) w w') (H.L (i+1))) q d0 vals':=by
 have hp:i+1<=j:=hi;have E7:=h.pos;have Ek:=h.size;have hr:∀i',i'<j->i'≠i->Ai ty Wg (H.S (i'+1)) w w':=fun i' Da e=>h.Xc hp T Da (by omega);have ug:∀op∈u,op.g=K+i:=U.g;have hf:=h.Tb (w':=w') hp T.size;refine⟨hz.trans h.size,h.pos,fun i' Da=>?_,fun k x hk hK hx=>?_,h.qM hp T.size U.g U.low U.ok,h.Xe hp T.size,L0 h.norel U.norel,N_ h.told,by rw[Y9 t (by omega) _ ug,h.deaf0],fun i' Da=>?_,fun k hk=>by rw[Y9 t (by omega) _ ug];exact h.above k hk,
  fun i' Da B5=>?_,Zm h.I5 T.size,Zm h.UR T.size,h.cw,hf.1,qN,fun i' Da oW=>?_,fun b hb h1 h2 h3=>?_,Zt h.grown T.size,T.os.trans h.os,T.tape.trans h.tape,T.output.trans h.output,hf.2.1,hf.2.2,h.l0,fun i' Da B5=>?_⟩
 .by_cases e:i'=i
  .subst e
   refine⟨g',oV,?_⟩;rw[(AZ _ _ _).1,(AZ _ _ _).2,upd_same,upd_same,upd_same];exact D5
  .obtain⟨x,hx,hsx⟩:=h.wk i' Da
   refine⟨x,by rw[hgo _ (by omega) (by omega)];exact hx,?_⟩;rw[(BI (by omega) _ _).1,(BI (by omega) _ _).2,upd_ne _ _ e,upd_ne _ _ e,upd_ne _ _ e];exact hsx.rely (hr i' Da e)
 .rw[hgo k hk (by omega)]at hx
  have hq:=h.old k x hk hK hx;rw[Y9 t (by omega) _ ug];exact hq
 .by_cases e:i'=i
  .subst e;rw[upd_same];exact agT
  .rw[Y9 t (by omega) _ ug,h.deafW i' Da,upd_ne _ _ e]
 .by_cases e:i'=i
  .subst e;rw[upd_same]at B5;exact hrel B5
  .rw[upd_ne _ _ e]at B5
   obtain⟨r,hr,htr,hk⟩:=h.rel i' Da B5;refine⟨r,hr.appOther ug (by omega),htr,fun k a ha hm hgk=>?_⟩;obtain⟨h1,h2⟩:=Oa ha (fun op hop=>by rw[ug op hop];omega) hgk;exact hk k a h1 hm h2
 .by_cases e:i'=i
  .subst e
   rw[upd_same]at oW;rw[(AZ _ _ _).1];exact mr oW
  .rw[upd_ne _ _ e]at oW
   rw[(BI (by omega) _ _).1,hv i' e];exact hP _ _ _ _ _ (h.pay i' Da oW) (hr i' Da e)
 .rw[T.still b (Zm hb h.grown) ?_ h1 h2]
  .exact h.dn b hb h1 h2 h3
  .by_cases hx:H.S (i+1) b
   .rcases h.Fp _ hp b hx with y|y
    .rcases h3 with z|z
     .exact absurd y z
     .exact .inr (h.mi _ hp b z hx y)
    .omega
   .exact .inl hx
 .by_cases e:i'=i
  .subst e;rw[upd_same]at B5⊢;exact he B5
  .rw[upd_ne _ _ e]at B5⊢;exact h.e01 i' Da B5
def qL.CX (h:qL Ch j E vals w)(T:w'.heap[Ch]?=w.heap[Ch]?):qL Ch j E vals w':=by
 obtain⟨ord,tm,h1,h2,h3⟩:=h;exact⟨ord,tm,h1,h2,T.trans h3⟩
def Com.step0 (h:Com P ty Wg Ch Pay K T₀ Shun w₀ S₀ L₀ j gs w t D E X H q d0 vals)(hP:Jq ty Wg Pay)(hz:gs'.size=gs.size)(hgo:∀k,0<k->gs'[k]?=gs[k]?)(T:Am ty Wg Ch (H.S 0) (H.L 0) w w')(U:Lf Wg K H 0 w w' u)(qN:w'.heap[Ch]?=w.heap[Ch]?):
  Com P ty Wg Ch Pay K T₀ Shun w₀ S₀ L₀ j gs' w' (t++u) D E X (H.set 0 (Ip (H.S 0) w w') (H.L 0)) q (Deaf (t++u) 0) vals:=by
 have hp:0<=j:=Zn _;have E7:=h.pos;have hr:∀i',i'<j->Ai ty Wg (H.S (i'+1)) w w':=fun i' Da=>h.Xc hp T Da (by omega);have ug:∀op∈u,op.g=0:=U.g;have hf:=h.Tb (w':=w') hp T.size;refine⟨hz.trans h.size,h.pos,fun i' Da=>?_,fun k x hk hK hx=>?_,h.qM hp T.size U.g U.low U.ok,h.Xe hp T.size,L0 h.norel U.norel,N_ h.told,rfl,fun i' Da=>by rw[Y9 t (by omega) _ ug];exact h.deafW i' Da,fun k hk=>by rw[Y9 t (by omega) _ ug];exact h.above k hk,
  fun i' Da B5=>?_,Zm h.I5 T.size,Zm h.UR T.size,h.cw,hf.1,h.ch.CX qN,fun i' Da oW=>?_,fun b hb h1 h2 h3=>?_,Zt h.grown T.size,T.os.trans h.os,T.tape.trans h.tape,T.output.trans h.output,hf.2.1,hf.2.2,h.l0,h.e01⟩
 .obtain⟨x,hx,hsx⟩:=h.wk i' Da
  refine⟨x,by rw[hgo _ (by omega)];exact hx,?_⟩;rw[(BI (by omega) _ _).1,(BI (by omega) _ _).2];exact hsx.rely (hr i' Da)
 .rw[hgo k hk]at hx
  have hq:=h.old k x hk hK hx;rw[Y9 t (by omega) _ ug];exact hq
 .obtain⟨r,hr,htr,hk⟩:=h.rel i' Da B5
  refine⟨r,hr.appOther ug (by omega),htr,fun k a ha hm hgk=>?_⟩;obtain⟨h1,h2⟩:=Oa ha (fun op hop=>by rw[ug op hop];omega) hgk;exact hk k a h1 hm h2
 .rw[(BI (by omega) _ _).1]
  exact hP _ _ _ _ _ (h.pay i' Da oW) (hr i' Da)
 .rw[T.still b (Zm hb h.grown) ?_ h1 h2]
  .exact h.dn b hb h1 h2 h3
  .by_cases hx:H.S 0 b
   .rcases h.Fp _ hp b hx with y|y
    .rcases h3 with z|z
     .exact absurd y z
     .exact .inr (h.mi _ hp b z hx y)
    .omega
   .exact .inl hx
variable {es:Array zc}
def Com.agV (h:Com P ty Wg Ch Pay K T₀ Shun w₀ S₀ L₀ j gs w t D E X H q d0 vals){n':Nat}(hk:0<k)(hK:k<K)(hz:gs'.size=gs.size)(oV:gs'[k]?=some g')(hgo:∀k',0<k'->k'≠k->gs'[k']?=gs[k']?){fn:ZaV}{pos:String}(hm:∀e∈es,e.mute=true)(hq:ZcD P n' (Yc (Deaf t k) es) g'):
  Com P ty Wg Ch Pay K T₀ Shun w₀ S₀ L₀ j gs' w (t++ZO k fn pos es) D E X H (upd q k n') d0 vals:=by
 have ug:∀op∈ZO k fn pos es,op.g=k:=fun op hop=>by obtain⟨e,_,rfl⟩:=ZW hop;rfl
 have E7:=h.pos;have Ek:=h.size;refine⟨hz.trans h.size,h.pos,fun i' Da=>?_,fun k' x JY hK' hx=>?_,h.ti.mute (g:=k) ug (fun op hop=>by obtain⟨e,he,rfl⟩:=ZW hop;exact low_mute (hm e he) _) (fun op hop=>by obtain⟨e,he,rfl⟩:=ZW hop;exact touch_mute (hm e he)),h.Pr,
  L0 h.norel (fun op hop hx=>?_),N_ h.told,by rw[Y9 t (by omega) _ ug];exact h.deaf0,fun i' Da=>by rw[Y9 t (by omega) _ ug];exact h.deafW i' Da,fun k' JY=>by rw[Y9 t (by omega) _ ug];exact h.above k' JY,
  fun i' Da B5=>?_,h.I5,h.UR,h.cw,h.Ps,h.ch,h.pay,h.dn,h.grown,h.os,h.tape,h.output,h.Fp,h.mi,h.l0,h.e01⟩
 .obtain⟨x,hx,hsx⟩:=h.wk i' Da
  exact⟨x,by rw[hgo _ (by omega) (by omega)];exact hx,hsx⟩
 .by_cases e:k'=k
  .subst e
   rw[oV]at hx;cases hx;rw[upd_same,Deaf_own];exact hq
  .rw[hgo k' JY e]at hx
   have hq:=h.old k' x JY hK' hx;rw[Y9 t (by omega) _ ug,upd_ne _ _ e];exact hq
 .obtain⟨e,he,rfl⟩:=ZW hop
  have h1:=hm e he;obtain⟨loc,wr,sy⟩:=e;cases loc<;>simp_all[Event.mute,ZY]
 .obtain⟨r,hr,htr,vV⟩:=h.rel i' Da B5
  refine⟨r,hr.appOther ug (by omega),htr,fun k a ha hm hgk=>?_⟩;obtain⟨h1,h2⟩:=Oa ha (fun op hop=>by rw[ug op hop];omega) hgk;exact vV k a h1 hm h2
def Com.Gv (h:Com P ty Wg Ch Pay K T₀ Shun w₀ S₀ L₀ j gs w t D E X H q d0 vals)(g g':Zi)(w':Zc)(p:Nat)(hk:0<k)(Bn:k≠p):((gs.map (woken P g g' w')).setIfInBounds p g')[k]?=gs[k]? :=by
 rw[get_map_set _ _ _ _ (Zbq Bn)];cases hx:gs[k]? with
 |none=>rfl
 |some x=>
  have AA:=(Za.1 hx).1;have Ek:=h.size;rw[Zdz]
  congr 1
  rcases Zaw k K with hK|hK
  .exact woken_quitsD (h.old k x hk hK hx)
  .obtain⟨y,hy,hsy⟩:=h.wk (k - K) (by omega)
   rw[show K+(k - K)=k by omega,hx]at hy;cases hy;exact hsy.woken _ _ _
variable {x y:MemOp}
def Com.spawn (h:Com P ty Wg Ch Pay K T₀ Shun w₀ S₀ L₀ j gs w t D E X H q 0 vals){child:Zi}(hx:x.g=0/\x.act=.go (K+j))(hy:y.g=K+j/\y.act=.start)
 (hc:Bf P false ty Wg (H.S 0) (AtSend P ty Wg Ch (Pay j)) (H.S 0) child w):
  Com P ty Wg Ch Pay K T₀ Shun w₀ S₀ L₀ (j+1) ((gs.setIfInBounds 0 a').push child) w (t++ #[x,y]) (upd D j ⟨7,0,0⟩) (upd E j 1) (upd X j hc.fuel) ((H.set (j+1) (H.S 0) (H.S 0)).set 0 (H.S 0) (H.S 0)) q 0 vals:=by
 have hm:∀op∈#[x,y],op=x\/op=y:=by intro op hop;simpa using hop
 have B5:∀op∈#[x,y],op.act≠ .mark .disable/\op.act≠ .mark .enable:=by
  intro op hop;rcases hm op hop with rfl|rfl
  .rw[hx.2];exact⟨by simp,by simp⟩
  .rw[hy.2];exact⟨by simp,by simp⟩
 have Ek:=h.size;have E7:=h.pos;have hS:∀p,p<=j+1->(p=0\/p=j+1)/\((H.set (j+1) (H.S 0) (H.S 0)).set 0 (H.S 0) (H.S 0)).S p=H.S 0/\((H.set (j+1) (H.S 0) (H.S 0)).set 0 (H.S 0) (H.S 0)).L p=H.S 0\/
   p≠0/\p<=j/\((H.set (j+1) (H.S 0) (H.S 0)).set 0 (H.S 0) (H.S 0)).S p=H.S p/\((H.set (j+1) (H.S 0) (H.S 0)).set 0 (H.S 0) (H.S 0)).L p=H.L p:=by
  intro p hp;by_cases e0:p=0
  .subst e0
   exact .inl ⟨.inl rfl,(AZ _ _ _).1,(AZ _ _ _).2⟩
  .by_cases e1:p=j+1
   .subst e1
    exact .inl ⟨.inr rfl,by rw[(BI e0 _ _).1,(AZ _ _ _).1],by rw[(BI e0 _ _).2,(AZ _ _ _).2]⟩
   .exact .inr ⟨e0,by omega,by rw[(BI e0 _ _).1,(BI e1 _ _).1],by rw[(BI e0 _ _).2,(BI e1 _ _).2]⟩
 have old:∀ {k:Nat},0<k->k<K+j->((gs.setIfInBounds 0 a').push child)[k]?=gs[k]? :=by
  intro k hk AA;rw[Zd2 (by simp[Ek];omega), <-ZC,Zk (by omega)]
 refine⟨by simp[Ek];omega,E7,fun i hi=>?_,fun k g hk hK hg=>?_,h.ti.fork hx hy h.deaf0 (h.above _ (Zj _)),⟨fun p p' hp Xd Bn b hb GZ=>?_,fun p hp hb=>?_,fun p hp b hb=>?_⟩,L0 h.norel fun op hop=>?_,N_ h.told,by rw[Deaf_still t 0 _ B5,h.deaf0],fun i hi=>?_,
  fun k hk=>by rw[Deaf_still t _ _ B5];exact h.above k (by omega),fun i hi hs=>?_,h.I5,h.UR,h.cw,fun p hp hb=>?_,?_,fun i hi he=>?_,h.dn,h.grown,h.os,h.tape,h.output,fun p hp b hb=>?_,fun p hp b hl hb h0=>?_,h.l0,fun i hi hs=>?_⟩
 .rcases Zaw i j with AA|hge
  .obtain⟨g,hg,hsg⟩:=h.wk i AA
   refine⟨g,by rw[old (by omega) (by omega)];exact hg,?_⟩;rw[upd_ne _ _ (by omega),upd_ne _ _ (by omega),upd_ne _ _ (by omega)];rcases hS (i+1) (by omega) with⟨h1|h1,_⟩|⟨_,_,h1,h2⟩
   .omega
   .omega
   .rw[h1,h2];exact hsg
  .obtain rfl:i=j:=by omega
   refine⟨child,?_,?_⟩
   .rw[show K+i=(gs.setIfInBounds 0 a').size by simp[Ek],ZaA]
   .rw[upd_same,upd_same,upd_same]
    rcases hS (i+1) (by omega) with⟨_,h1,h2⟩|⟨_,h1,_⟩
    .rw[h1,h2];exact .wk hc (Ai.refl w)
    .omega
 .rw[old hk (by omega)]at hg
  have:=h.old k g hk hK hg;rw[Deaf_still t _ _ B5];exact this
 .rcases hS p hp with⟨_,h1,h2⟩|⟨h0,hj,h1,h2⟩
  .rw[h2];rw[h1]at hb;exact hb
  .rw[h2]
   rw[h1]at hb;rcases hS p' Xd with⟨_,k1,_⟩|⟨_,hj',k1,_⟩
   .rw[k1]at GZ
    exact h.Pr.two p 0 hj (Zn _) h0 b hb GZ
   .rw[k1]at GZ
    exact h.Pr.two p p' hj hj' Bn b hb GZ
 .rcases hS p hp with⟨_,h1,_⟩|⟨h0,hj,h1,_⟩
  .rw[h1]at hb;exact h.Pr.wg 0 (Zn _) hb
  .rw[h1]at hb;exact h.Pr.wg p hj hb
 .rcases hS p hp with⟨_,h1,_⟩|⟨h0,hj,h1,_⟩
  .rw[h1]at hb;exact h.Pr.low 0 (Zn _) b hb
  .rw[h1]at hb;exact h.Pr.low p hj b hb
 .rcases hm op hop with rfl|rfl
  .rw[hx.2];simp
  .rw[hy.2];simp
 .rw[Deaf_still t _ _ B5]
  rcases Zaw i j with AA|hge
  .rw[h.deafW i AA,upd_ne _ _ (by omega)]
  .obtain rfl:i=j:=by omega
   rw[upd_same];exact h.above _ (Zj _)
 .rcases Zaw i j with AA|hge
  .rw[upd_ne _ _ (by omega)]at hs
   obtain⟨r,hr,htr,hk⟩:=h.rel i AA hs;have hng:∀op∈#[x,y],op.g≠K+i:=by
    intro op hop;rcases hm op hop with rfl|rfl
    .rw[hx.1];omega
    .rw[hy.1];omega
   refine⟨r,hr.appNot hng,htr,fun k a ha hmm hgk=>?_⟩;obtain⟨h1,h2⟩:=Oa ha hng hgk;exact hk k a h1 hmm h2
  .obtain rfl:i=j:=by omega
   rw[upd_same]at hs;simp at hs
 .rcases hS p hp with⟨_,h1,_⟩|⟨h0,hj,h1,_⟩
  .rw[h1]at hb;exact h.Ps 0 (Zn _) hb
  .rw[h1]at hb;exact h.Ps p hj hb
 .obtain⟨ord,tm,h1,h2,h3⟩:=h.ch
  refine⟨ord,tm,h1,fun i=>(h2 i).trans ⟨fun⟨k1,k2⟩=>⟨by omega,by rw[upd_ne _ _ (by omega)];exact k2⟩,fun⟨k1,k2⟩=>?_⟩,h3⟩;by_cases e:i=j
  .subst e;rw[upd_same]at k2;cases k2
  .rw[upd_ne _ _ e]at k2
   exact⟨by omega,k2⟩
 .by_cases e:i=j
  .subst e;rw[upd_same]at he;cases he
  .rw[upd_ne _ _ e]at he
   rcases hS (i+1) (by omega) with⟨h1|h1,_⟩|⟨_,_,h1,_⟩
   .omega
   .omega
   .rw[h1];exact h.pay i (by omega) he
 .rcases hS p hp with⟨_,h1,_⟩|⟨h0,hj,h1,_⟩
  .rw[h1]at hb;exact h.Fp 0 (Zn _) b hb
  .rw[h1]at hb;exact h.Fp p hj b hb
 .rcases hS p hp with⟨_,h1,h2⟩|⟨_,hj,h1,h2⟩
  .rw[h2];rw[h1]at hb;exact hb
  .rw[h2];rw[h1]at hb;exact h.mi p hj b hl hb h0
 .by_cases e:i=j
  .subst e;rw[upd_same]at hs;simp at hs
  .rw[upd_ne _ _ e]at hs⊢;exact h.e01 i (by omega) hs
end
end Go.Pair
namespace Go.Pair
open Go Go.Conc Go.FO
open Go.ConcN (PermW RelBy WgLive CTag phi pend isOpen isW3 isFin OpenSt AllQuit WD Vc Ssum Fsum cnt sumTo sumTo_upd sumTo_congr upd upd_same upd_ne get_map_set get_map_set_same phi_mono phi_retag)
open Go.ConcR (KK WgAt stA smA rd wr mk DC0 Bk g_of_ofEvents)
section
variable {K Wg T₀:Nat}{t u:Y8}{g r:Nat}
def Jp.other (h:Jp Wg T₀ t g r)(hu:∀op∈u,op.g≠g):Jp Wg T₀ (t++u) g r:=
 ⟨h.1.appNot hu,h.2.1,fun k a ha hm hg=>by obtain⟨h1,h2⟩:=Oa ha hu hg;exact h.2.2 k a h1 hm h2⟩
variable {p b i j k s' e' m' dd' d Ld f' m n:Nat}
variable {es:Array zc}
def Jp.book (h:Jp Wg T₀ t g r)(oX:Deaf t g=d)(fn:ZaV)(pos:String)(UJ:∀e∈es,Bk Wg e)
 (hd:∀j e,es[j]?=some e->(ZY e).touch?=none\/0<Yc d (es.extract 0 j)):Jp Wg T₀ (t++ZO g fn pos es) g r:=by
 refine⟨h.1.book oX fn pos UJ hd,h.2.1,fun k a ha hm hg=>?_⟩;obtain⟨x,hx,Xb⟩:=ZbJ ha;rcases YH hx with⟨hi,jP⟩|⟨_,hxu⟩
 .exact h.2.2 k a (by rw[ZcA jP];exact Xb) hm (by simpa[Zan,YY hi]using hg)
 .obtain⟨e,he,rfl⟩:=ZW hxu
  refine .inr ?_;rcases UJ e he with h1|h1|⟨ad,w,rfl,hb⟩
  .simp only[zR h1]at Xb;cases Xb
  .simp only[zR h1]at Xb;cases Xb
  .simp only[Zc3,Yn,ZN]at Xb
   subst Xb;exact⟨⟨ad,rfl,hb⟩,by simp⟩
def AcqAll (K Wg T₀ j:Nat)(t:Y8):Prop:=
 ∃q,t.act? q=some (.mark (.acquire (stA Wg)))/\t.g? q=some 0/\t.heard q/\∀i,i<j->∃r,Jp Wg T₀ t (K+i) r/\r<q
def AcqAll.app (h:AcqAll K Wg T₀ j t)(hu:∀i r,i<j->Jp Wg T₀ t (K+i) r->Jp Wg T₀ (t++u) (K+i) r):AcqAll K Wg T₀ j (t++u):=by
 obtain⟨q,h1,h2,h3,h4⟩:=h;have hq:=lt_of_act? h1;exact⟨q,by rw[act?_old hq];exact h1,by rw[g?_old hq];exact h2,(heard_old hq).2 h3,fun i hi=>let⟨r,hr,hrq⟩:=h4 i hi;⟨r,hu i r hi hr,hrq⟩⟩
end
abbrev Mu (P:Zp)(ty:Zr)(Wg:Nat):=Nat×(Fuel P ty Wg×(Fuel P ty Wg×(Nat×(Fuel P ty Wg×Nat))))
def Jr {P:Zp}{ty:Zr}{Wg:Nat}(a b:Mu P ty Wg):Prop:=
 ZcQ (fun x y:Nat=>x<y) (ZcQ Fuel.lt (ZcQ Fuel.lt (ZcQ (fun x y:Nat=>x<y) (ZcQ Fuel.lt (fun x y:Nat=>x<y))))) a b
def ano (P:Zp)(ty:Zr)(Wg:Nat):WellFounded (@Jr P ty Wg):=
 (ZcP ZdK (ZcP ⟨Fuel.lt,Fuel.wf P ty Wg⟩ (ZcP ⟨Fuel.lt,Fuel.wf P ty Wg⟩ (ZcP ZdK (ZcP ⟨Fuel.lt,Fuel.wf P ty Wg⟩ ZdK))))).wf
section
variable {P:Zp}{ty:Zr}{Wg:Nat}{N N':Nat}{A A' B B' C C':Fuel P ty Wg}{n n' m m':Nat}
def mu1 (h:N'<N):Jr (N',A',B',n',C',m') (N,A,B,n,C,m):=Za4 _ _ h
def mu2 (h:Fuel.lt A' A):Jr (N,A',B',n',C',m') (N,A,B,n,C,m):=zI _ (Za4 _ _ h)
def mu3 (h:Fuel.lt B' B):Jr (N,A,B',n',C',m') (N,A,B,n,C,m):=zI _ (zI _ (Za4 _ _ h))
def mu4 (h:n'<n):Jr (N,A,B,n',C',m') (N,A,B,n,C,m):=zI _ (zI _ (zI _ (Za4 _ _ h)))
def mu5 (h:Fuel.lt C' C):Jr (N,A,B,n,C',m') (N,A,B,n,C,m):=zI _ (zI _ (zI _ (zI _ (Za4 _ _ h))))
def mu6 (h:m'<m):Jr (N,A,B,n,C,m') (N,A,B,n,C,m):=zI _ (zI _ (zI _ (zI _ (zI _ h))))
end
section
variable(P:Zp)(ty:Zr)(Wg Ch:Nat)(Pay:Nat->Gu)(K T₀:Nat)(Shun:Loc->Prop)(w₀:Zc)(S₀ L₀:Nat->Prop)(Anch AU:Ci)
def KG (K j:Nat)(D:Nat->WD)(E:Nat->Nat)(X:Nat->Fuel P ty Wg)(q:Nat->Nat)(tag:CTag)(sub:Nat)(X0:Fuel P ty Wg)(f0:Nat):Mu P ty Wg:=
 (phi 2 (Vc j D) tag+sub+Ssum j D+sumTo j E,X 0,X 1,sumTo K q+Fsum j D,X0,f0)
def Inv (μ:Mu P ty Wg)(m:Machine)(t:Y8):Prop:=
 ∃(gs:Array Zi) (w:Zc) (sl:Option (Nat×Nat)) (j:Nat) (D:Nat->WD) (E:Nat->Nat) (X:Nat->Fuel P ty Wg) (H:JZ) (q:Nat->Nat) (d0:Nat) (vals:Nat->Ze) (tag:CTag) (sub f0:Nat) (X0:Fuel P ty Wg) (a:Zi) (st sm:Int),
  m=Ys gs w sl/\gs[0]?=some a/\CSit P ty Wg Ch Pay Anch AU (H.S 0) (H.L 0) tag sub j f0 X0 d0 a w/\Com P ty Wg Ch Pay K T₀ Shun w₀ S₀ L₀ j gs w t D E X H q d0 vals/\WgAt ty Wg w st sm/\Yl j D tag st sm/\
  (tag=.ret->AcqAll K Wg T₀ j t)/\μ=KG P ty Wg K j D E X q tag sub X0 f0
end
section
variable {P:Zp}{ty:Zr}{Wg Ch:Nat}{Pay:Nat->Gu}{K T₀:Nat}{Shun:Loc->Prop}{w₀:Zc}{S₀ L₀:Nat->Prop}{Anch AU:Ci}
 {j:Nat} {gs gs':Array Zi} {w w':Zc} {t u:Y8} {D:Nat->WD} {E:Nat->Nat} {X:Nat->Fuel P ty Wg} {H:JZ} {q:Nat->Nat} {d0:Nat} {vals vals':Nat->Ze} {tag:CTag} {sub f0:Nat} {X0:Fuel P ty Wg} {a:Zi} {sl:Option (Nat×Nat)}
variable {S L S' L':Nat->Prop}
def CSit.bound (h:CSit P ty Wg Ch Pay Anch AU S L tag sub j f0 X0 d0 a w):j+pend tag<=2/\j<=2:=by
 cases h<;>simp only[pend]<;>(try simp)<;>omega
variable {p b i k s' e' m' dd' d Ld f' m n:Nat}
variable {g g' a':Zi}
variable {RB VE:Int}
def workerStep (Ta:∀S g w,AU S g w->g.status=.running)(hA:∀S g w,Anch S g w->g.status=.running)
 (hcs:CSit P ty Wg Ch Pay Anch AU (H.S 0) (H.L 0) tag sub j f0 X0 d0 a w)
 (hi:i<j) {x':Fuel P ty Wg} (aa8:Ai ty Wg (H.S 0) w w') (h0:gs'[0]?=some (woken P g g' w' a)\/gs'[0]?=some a/\(tag=.blk->¬(ZcJ P g=true/\g'.status=.running)))
 (Cd:Com P ty Wg Ch Pay K T₀ Shun w₀ S₀ L₀ j gs' w' (t++u) (upd D i ⟨s',m',dd'⟩) (upd E i e') (upd X i x') (H.set (i+1) S' L') q d0 vals') (Du:WgAt ty Wg w' RB VE)
 (AP:∀Cs,(Cs=tag\/(tag=.blk/\Cs=.w3))->(ZcJ P g=true->g'.status=.running->Cs≠ .blk)->Yl j (upd D i ⟨s',m',dd'⟩) Cs RB VE)
 (Js:tag=.ret->AcqAll K Wg T₀ j (t++u))
 (AA:(s'+e'<(D i).stage+E i/\s'<=(D i).stage/\cnt ⟨s',m',dd'⟩<=cnt (D i))\/(s'=(D i).stage/\e'=E i/\m'=(D i).fuel/\Fuel.lt x' (X i))\/(s'=(D i).stage/\e'=E i/\x'=X i/\m'+1=(D i).fuel)):
  ∃G_,Jr G_ (KG P ty Wg K j D E X q tag sub X0 f0)/\Inv P ty Wg Ch Pay K T₀ Shun w₀ S₀ L₀ Anch AU G_ (Ys gs' w' sl) (t++u):=by
 have hj:=hcs.bound.2;obtain⟨a',Cs,f',ha',K6,fS,hwk⟩:∃a' Cs f',gs'[0]?=some a'/\CSit P ty Wg Ch Pay Anch AU (H.S 0) (H.L 0) Cs sub j f' X0 d0 a' w'/\(Cs=tag\/(tag=.blk/\Cs=.w3))/\(ZcJ P g=true->g'.status=.running->Cs≠ .blk):=by
  rcases h0 with h0|⟨h0,h1⟩
  .obtain⟨Cs,f',h2,h3,h4⟩:=hcs.wokenBy Ta hA aa8 g g'
   exact⟨_,Cs,f',h0,h2,h3,h4⟩
  .exact⟨a,tag,f0,h0,hcs.rely aa8,.inl rfl,fun x y z=>h1 z ⟨x,y⟩⟩
 have e1:=sumTo_upd D (⟨s',m',dd'⟩:WD) cnt hi;have e2:=sumTo_upd D (⟨s',m',dd'⟩:WD) WD.stage hi;have e3:=sumTo_upd D (⟨s',m',dd'⟩:WD) WD.fuel hi;have e4:=sumTo_upd E e' id hi;refine⟨KG P ty Wg K j (upd D i ⟨s',m',dd'⟩) (upd E i e') (upd X i x') q Cs sub X0 f',?_,gs',w',sl,j,_,_,_,_,q,d0,vals',Cs,sub,f',X0,a',RB,VE,rfl,ha',?_,Cd,Du,AP Cs fS hwk,fun e=>?_,rfl⟩
 .have ph:=phi_retag 2 (Vc j (upd D i ⟨s',m',dd'⟩)) fS
  unfold KG;rw[ph];simp only[Vc,Ssum,Fsum,id]at*;rcases AA with⟨h1,_,h2⟩|⟨h1,h2,hm,h3⟩|⟨h1,h2,h3,h4⟩
  .have:=phi_mono 2 (v':=sumTo j fun a=>cnt (upd D i ⟨s',m',dd'⟩ a)) (v:=sumTo j fun a=>cnt (D a)) (by omega) tag
   have e4':(sumTo j fun a=>upd E i e' a)=sumTo j (upd E i e'):=rfl;have qO:(sumTo j fun a=>E a)=sumTo j E:=rfl;rw[e4',qO]at e4;exact mu1 (by omega)
  .have ec:cnt (⟨s',m',dd'⟩:WD)=cnt (D i):=by simp only[cnt,h1]
   have ev:(sumTo j fun a=>cnt (upd D i ⟨s',m',dd'⟩ a))=sumTo j fun a=>cnt (D a):=by omega
   have BH:(sumTo j fun a=>(upd D i ⟨s',m',dd'⟩ a).stage)=sumTo j fun a=>(D a).stage:=by omega
   have ee:sumTo j (upd E i e')=sumTo j E:=by
    have e4':(sumTo j fun a=>upd E i e' a)=sumTo j (upd E i e'):=rfl;have qO:(sumTo j fun a=>E a)=sumTo j E:=rfl;rw[e4',qO]at e4;omega
   rw[ev,BH,ee];rcases Zaw i 1 with hi0|hi1
   .obtain rfl:i=0:=by omega
    refine mu2 ?_;rw[upd_same];exact h3
   .obtain rfl:i=1:=by omega
    rw[upd_ne _ _ (by omega:(0:Nat)≠1)];refine mu3 ?_;rw[upd_same];exact h3
  .have ec:cnt (⟨s',m',dd'⟩:WD)=cnt (D i):=by simp only[cnt,h1]
   have ev:(sumTo j fun a=>cnt (upd D i ⟨s',m',dd'⟩ a))=sumTo j fun a=>cnt (D a):=by omega
   have BH:(sumTo j fun a=>(upd D i ⟨s',m',dd'⟩ a).stage)=sumTo j fun a=>(D a).stage:=by omega
   have ee:sumTo j (upd E i e')=sumTo j E:=by
    have e4':(sumTo j fun a=>upd E i e' a)=sumTo j (upd E i e'):=rfl;have qO:(sumTo j fun a=>E a)=sumTo j E:=rfl;rw[e4',qO]at e4;omega
   have ex:upd X i x'=X:=by
    funext k
    by_cases e:k=i
    .subst e;rw[upd_same,h3]
    .rw[upd_ne _ _ e]
   rw[ev,BH,ee,ex];exact mu4 (by omega)
 .rw[(BI (by omega) _ _).1,(BI (by omega) _ _).2]
  exact K6
 .rcases fS with rfl|⟨_,rfl⟩
  .exact Js e
  .cases e
variable {Cs:CTag}
def callerStep {oY:Fuel P ty Wg}{d0':Nat}(ha':gs'[0]?=some a')(Cd:Com P ty Wg Ch Pay K T₀ Shun w₀ S₀ L₀ j gs' w' (t++u) D E X (H.set 0 S' L') q d0' vals)
 (K6:CSit P ty Wg Ch Pay Anch AU S' L' Cs Ld j f' oY d0' a' w') (Du:WgAt ty Wg w' RB VE) (AP:Yl j D Cs RB VE)
 (Js:Cs=.ret->AcqAll K Wg T₀ j (t++u))
 (AA:phi 2 (Vc j D) Cs+Ld<phi 2 (Vc j D) tag+sub\/(phi 2 (Vc j D) Cs+Ld=phi 2 (Vc j D) tag+sub/\(Fuel.lt oY X0\/(oY=X0/\f'<f0)))):
  ∃G_,Jr G_ (KG P ty Wg K j D E X q tag sub X0 f0)/\Inv P ty Wg Ch Pay K T₀ Shun w₀ S₀ L₀ Anch AU G_ (Ys gs' w' sl) (t++u):=by
 refine⟨KG P ty Wg K j D E X q Cs Ld oY f',?_,gs',w',sl,j,D,E,X,_,q,d0',vals,Cs,Ld,f',oY,a',RB,VE,rfl,ha',by rw[(AZ _ _ _).1,(AZ _ _ _).2];exact K6,Cd,Du,AP,Js,rfl⟩;unfold KG;rcases AA with h|⟨h1,h2|⟨rfl,h2⟩⟩
 .exact mu1 (by omega)
 .rw[h1];exact mu5 h2
 .rw[h1];exact mu6 h2
end
end Go.Pair
namespace Go.Pair
open Go Go.Conc Go.FO
variable {gs' gs:Array Zi}
def partners_nil (h:∀(i:Nat) g,gs[i]?=some g->g.status≠ .blocked\/g.offers=none)(r:Nat)(send:Bool):partners gs r send=[]:=by
 unfold partners;rw[List.flatMap_eq_nil_iff];rintro⟨g,i⟩ hg;have hm:gs[i]?=some g:=by
  have:=Array.mem_toList_iff.1 hg;rw[Array.mem_zipIdx_iff_getElem?]at this;exact this
 rcases h i g hm with h|h
 .cases hs:g.status<;>simp_all
 .cases hs:g.status<;>simp[h]
section
variable {P:Zp}{gs:Array Zi}{w:Zc}{sl:Option (Nat×Nat)}{i:Nat}{g Bw:Zi}{es:Array zc}{c cap s r:Nat}{buf:Array Ze}{z v:Ze}{tm:Bool}
def Q8 (hi:gs[i]?=some g)(h:zd P (i==0) g w=.comm Bw #[scase c v z] true .send w es)(hc:w.heap[c]?=some (.chan cap buf false s r tm))(agX:buf.size<cap)
 (hn:∀(k:Nat) x,gs[k]?=some x->x.status≠ .blocked\/x.offers=none):
  runT P (Ys gs w sl) i=(.next (Ys (gs.setIfInBounds i (YZ Bw Zf)) (w.setChan c cap (buf.push v) false (s+1) r tm) sl),
   ZO i g.frame.fn g.frame.place es++ #[{g:=i,fn:=Bw.frame.fn,pos:=Bw.frame.place,act:=.send c s}, {g:=i,fn:=Bw.frame.fn,pos:=Bw.frame.place,act:=.sendDone c s}]):=by
 obtain⟨AA,rfl⟩:=Za.1 hi;have mA:=swapAt_of_lt AA {(default:Zi) with status:=.finished};have hp:partners (gs.set i {(default:Zi) with status:=.finished}) c false=[]:=by
  refine partners_nil (fun k x hk=>?_) _ _;rw[Array.getElem?_set]at hk;split at hk
  .cases hk;exact .inl (by simp)
  .exact hn k x hk
 show runT P {world:=w,gs:=gs,rest:= {timers:= #[],alone:=none,slice:=sl}} i=_;unfold runT;simp only[mA,h,GStep.es];simp[communicate,ways,scase,hc,hp,agX,choose,Sem.run,Question.forced,bind,Zcd,pure,Goroutine.finishComm,commResult,YZ,Zb0,Ys];exact set_setIfInBounds AA _ _
end
end Go.Pair
namespace Go.Pair
open Go Go.Conc Go.FO
open Go.ConcN (PermW RelBy WgLive CTag phi pend isOpen isW3 isFin OpenSt AllQuit WD Vc Ssum Fsum cnt sumTo sumTo_upd sumTo_congr upd upd_same upd_ne phi_mono phi_retag others_uncounted le_sumTo Vc_upd bk_cell deafBehind_idle)
open Go.ConcR (KK WgAt stA smA rd wr mk DC0 Bk g_of_ofEvents)
section
variable {P:Zp}{m:Bool}{ty:Zr}{Wg Ch:Nat}{Lk:Nat->Prop}{Stop:Ci}{S L:Nat->Prop}{g:Zi}{w w' x:Zc}{es:Array zc}{K:Nat}{H:JZ}{p:Nat}{fn:ZaV}{pos:String}
def Bf.at_ (h:Bf P m ty Wg Lk Stop S g x)(hr:Ai ty Wg S x w):Stop S g w\/(g.status=.running/\∃g' w' es,zd P m g w=.go g' w' es/\Mq S Lk w w' es/\∃h':Bf P m ty Wg Lk Stop (Ip S w w') g' w',Fuel.lt h'.fuel h.fuel):=by
 by_cases B5:∀w₂,Ai ty Wg S x w₂->Stop S g w₂
 .exact .inl (B5 w hr)
 .have key:Bf P m ty Wg Lk Stop S g x->(g.status=.running/\∃g' w' es,zd P m g w=.go g' w' es/\Mq S Lk w w' es/\Bf P m ty Wg Lk Stop (Ip S w w') g' w'):=by
   intro h;cases h with
   |stop h=>exact absurd h B5
   |step hs GX E6 Jl hh k=>exact⟨hs,_,_,_,(hh w hr).1,(hh w hr).2,k w hr⟩
  obtain⟨hs,g',w',es,h1,h2,h3⟩:=key h;exact .inr ⟨hs,g',w',es,h1,h2,h3,rfl,rfl,B5,w,es,hr,h1,rfl⟩
def L5 {e:zc}(h:WV S Lk e):e.loc≠ .mark .disable/\e.loc≠ .mark .enable/\∀a,e.loc≠ .mark (.release a):=by
 obtain⟨loc,wr,sy⟩:=e;unfold WV at h;cases loc with
 |mark m=>cases m<;>first|exact h.elim|exact⟨by simp,by simp,by simp⟩
 |_=>exact⟨by simp,by simp,by simp⟩
def Qq (hG:Mq (H.S p) (H.L p) w w' es)(Jt:∀b,H.S p b->b<w.heap.size):Lf Wg K H p w w' (ZO (ix K p) fn pos es):=by
 have I5:∀b,Ip (H.S p) w w' b->b<w'.heap.size:=fun b hb=>hb.elim (fun x=>Zm (Jt b x) hG.size) And.right;refine⟨fun op hop=>by obtain⟨e,_,rfl⟩:=ZW hop;rfl,fun op hop=>?_,fun op hop x hx=>?_,fun op hop hr=>?_⟩
 all_goals
  obtain⟨e,he,rfl⟩:=ZW hop;have Sy:=hG.evs e he;obtain⟨loc,wr,sy⟩:=e;unfold WV at Sy
 .cases loc with
  |cell a=>exact I5 _ Sy.1
  |obj r=>dsimp only at Sy;cases wr<;>cases sy<;>exact I5 _ Sy.1
  |mark m=>cases m<;>first|exact Sy.elim|trivial
  |output=>trivial
  |_=>exact Sy.elim
 .cases loc with
  |cell a=>
   simp only[ZY,Yn,ZN]at hx;subst hx;exact .inr (.inl ⟨a.block,rfl,Sy.1,Sy.2⟩)
  |obj r=>
   dsimp only at Sy;have:x.loc=.obj r/\x.write=wr:=by cases wr<;>cases sy<;>simp[ZY,Yn]at hx<;>subst hx<;>exact⟨rfl,rfl⟩
   exact .inr (.inl ⟨r,by rw[this.1];rfl,Sy.1,by rw[this.2];exact Sy.2⟩)
  |mark m=>cases m<;>first|exact Sy.elim|(simp[ZY,Yn]at hx)
  |output=>
   simp only[ZY,Yn,ZN]at hx;subst hx;exact .inr (.inr rfl)
  |_=>exact Sy.elim
 .cases loc with
  |mark m=>cases m<;>first|exact Sy.elim|(simp[ZY]at hr)
  |cell a=>simp[ZY]at hr
  |obj r=>cases wr<;>cases sy<;>simp[ZY]at hr
  |output=>simp[ZY]at hr
  |_=>exact Sy.elim
def F2 (hb:∀e∈es,Bk Wg e)(hW:Wg<w'.heap.size):Lf Wg K H p w w' (ZO (ix K p) fn pos es):=by
 refine⟨fun op hop=>by obtain⟨e,_,rfl⟩:=ZW hop;rfl,fun op hop=>?_,fun op hop x hx=>?_,fun op hop hr=>?_⟩
 all_goals
  obtain⟨e,he,rfl⟩:=ZW hop;rcases hb e he with h|h|⟨a,wr,rfl,ha⟩
 .rw[zR h];trivial
 .rw[zR h];trivial
 .show a.block<_
  rw[ha];exact hW
 .simp only[zR h]at hx;cases hx
 .simp only[zR h]at hx;cases hx
 .simp only[Zc3,Yn,ZN]at hx
  subst hx;exact .inl ⟨⟨a,rfl,ha⟩,by simp,by simp⟩
 .simp only[zR h]at hr;cases hr
 .simp only[zR h]at hr;cases hr
 .cases hr
def IB {Tc:Mark}(Jt:(ZdB Tc).low w'.heap.size)(hr:∀a,Tc≠ .release a)(ht:(ZdB Tc).touch?=none\/(p=0/\∃a:Addr,a.block=Wg/\∃wr,(ZdB Tc).touch?=some ⟨.cell a,wr,.said⟩)):
  Lf Wg K H p w w' (ZO (ix K p) fn pos #[mk Tc]):=by
 have e1:ZO (ix K p) fn pos #[mk Tc]= #[{g:=ix K p,fn,pos,act:=.mark Tc}]:=by rw[Zcc];simp[Zdq]
 rw[e1];refine⟨fun op hop=>?_,fun op hop=>?_,fun op hop x hx=>?_,fun op hop h=>?_⟩<;>(simp only[List.mem_toArray,List.mem_cons,List.not_mem_nil,or_false]at hop;subst hop)
 .rfl
 .exact Jt
 .rcases ht with ht|⟨rfl,a,ha,wr,ht⟩
  .rw[ht]at hx;cases hx
  .rw[ht]at hx
   cases hx;exact .inl ⟨⟨a,rfl,ha⟩,by simp,fun _=>rfl⟩
 .cases h
  exact hr _ rfl
def Mz (h:Aside Wg w w')(hl:WgLive ty Wg w'):Am ty Wg Ch S L w w':=⟨ZcT h.size.symm,fun b _ _ h1 _=>h.block b h1,h.os,h.tape,h.output,fun _=>hl⟩
def MA (h:Aside Wg w w')(hl:WgLive ty Wg w')(hS:¬S Wg):Ai ty Wg S w w':=⟨⟨fun b hb=>h.block b (fun e=>hS (e▸hb)),ZcT h.size.symm,h.os⟩,fun _=>hl⟩
end
section
variable {P:Zp}{ty:Zr}{Wg Ch:Nat}{Pay:Nat->Gu}{K T₀:Nat}{Shun:Loc->Prop}{w₀:Zc}{S₀ L₀:Nat->Prop}{Anch AU:Ci}
 {j:Nat} {gs:Array Zi} {w:Zc} {t:Y8} {D:Nat->WD} {E:Nat->Nat} {X:Nat->Fuel P ty Wg} {H:JZ} {q:Nat->Nat} {d0:Nat} {vals:Nat->Ze} {tag:CTag} {sub f0:Nat} {X0:Fuel P ty Wg} {a:Zi} {sl:Option (Nat×Nat)} {st sm:Int}
def Xf (K i:Nat)(hK:1<=K):(K+i==0)=false:=by simp;omega
def qP {α:Type}(f:Nat->α)(i:Nat):upd f i (f i)=f:=by
 funext k
 by_cases e:k=i
 .subst e;exact upd_same _ _ _
 .exact upd_ne _ _ e
variable {p b i k s' e' m' dd' d Ld f' m n:Nat}
variable {g g' a':Zi}
def stepWorker (hP:Jq ty Wg Pay)(Ta:∀S g w,AU S g w->g.status=.running)(hA:∀S g w,Anch S g w->g.status=.running)
 (ha:gs[0]?=some a) (hcs:CSit P ty Wg Ch Pay Anch AU (H.S 0) (H.L 0) tag sub j f0 X0 d0 a w) (AB:Com P ty Wg Ch Pay K T₀ Shun w₀ S₀ L₀ j gs w t D E X H q d0 vals) (Du:WgAt ty Wg w st sm) (AP:Yl j D tag st sm)
 (Js:tag=.ret->AcqAll K Wg T₀ j t) (hi:i<j) (hg:gs[K+i]?=some g) (BD:g.status=.running):
  ∃m₁ ops G_,runT P (Ys gs w sl) (K+i)=(.next m₁,ops)/\Jr G_ (KG P ty Wg K j D E X q tag sub X0 f0)/\Inv P ty Wg Ch Pay K T₀ Shun w₀ S₀ L₀ Anch AU G_ m₁ (t++ops):=by
 obtain⟨AG,jR,hs⟩:=AB.wk i hi;obtain rfl:g=AG:=by rw[hg]at jR;exact ZK jR
 generalize B5:(D i).stage=s at hs;generalize hfu:(D i).fuel=m at hs;generalize hde:(D i).deaf=dd at hs;generalize oW:E i=e at hs;generalize fT:X i=x at hs;have hb:=hcs.bound;have E7:=AB.pos;have hVj:=ZdQ j D;have oX:Deaf t (K+i)=dd:=by rw[AB.deafW i hi,hde]
 have hp:i+1<=j:=hi;have jS:¬H.S (i+1) Wg:=AB.Pr.wg _ hp;have hS0:¬H.S 0 Wg:=AB.Pr.wg _ (Zn _);have hKi:0<K+i:=by omega
 have M4:K+i<gs.size:=(Za.1 hg).1;have nr:s≠1->tag≠ .ret:=fun h=>AP.not_ret hi (by omega);have qQ:∀ {g':Zi} {w':Zc} {es:Array zc} {s' m' dd':Nat} {RB VE:Int},zd P false g w=.go g' w' es->Aside Wg w w'->WgAt ty Wg w' RB VE->Lf Wg K H (i+1) w w' (ZO (K+i) g.frame.fn g.frame.place es)->
   WSit P ty Wg Ch (Pay i) (H.S (i+1)) (H.L (i+1)) s' 0 m' dd' (X i) g' w'->Yc dd es=dd'->e=0->
   (s'<=6->∃r,Jp Wg T₀ (t++ZO (K+i) g.frame.fn g.frame.place es) (K+i) r)->
   (∀Cs,(Cs=tag\/(tag=.blk/\Cs=.w3))->(ZcJ P g=true->g'.status=.running->Cs≠ .blk)->Yl j (upd D i ⟨s',m',dd'⟩) Cs RB VE)->(tag=.ret->AcqAll K Wg T₀ j (t++ZO (K+i) g.frame.fn g.frame.place es))->((s'<s/\cnt ⟨s',m',dd'⟩<=cnt (D i))\/(s'=s/\m'+1=m))->
   ∃m₁ ops G_,runT P (Ys gs w sl) (K+i)=(.next m₁,ops)/\Jr G_ (KG P ty Wg K j D E X q tag sub X0 f0)/\Inv P ty Wg Ch Pay K T₀ Shun w₀ S₀ L₀ Anch AU G_ m₁ (t++ops):=by
  intro g' w' es s' m' dd' RB VE hgo jT Lg U D5 Qo he0 hrel G1 bV AA;have Kt:WgLive ty Wg w':=⟨_,_,Lg⟩;have hW:Ip (H.S (i+1)) w w'=H.S (i+1):=by rw[S_ _ jT.size,H2]
  have he:upd E i 0=E:=by rw[<-he0, <-oW];exact qP E i
  have hE0:E i=0:=oW.trans he0;have T:Am ty Wg Ch (H.S (i+1)) (H.L (i+1)) w w':=Mz jT Kt;have FQ:=Zb6 (P:=P) (sl:=sl) (i:=K+i) hg (by rw[Xf K i E7];exact hgo);have Cd:=AB.stepW hP hi (gs':=(gs.map (woken P g g' w')).setIfInBounds (K+i) g') T U (by rw[hW];exact D5) (by rw[Deaf_own,oX];exact Qo) hrel (by simp) (Zbv _ _ _ M4)
   (fun k h1 h2=>AB.Gv g g' w' _ h1 h2) (by rw[he];exact AB.ch.CX (jT.block Ch AB.cw)) (fun _ _=>rfl) (fun _=>by rw[hW];exact hP _ _ _ _ _ (AB.pay i hi hE0) (MA jT Kt jS)) (fun _=>rfl)
  obtain⟨G_,h1,h2⟩:=workerStep (sl:=sl) Ta hA hcs hi (g:=g) (g':=g') (MA jT Kt hS0) (.inl (by rw[Zcg _ _ _ _ (by omega),ha];rfl)) Cd Lg G1 bV (by
    rcases AA with⟨a1,a2⟩|⟨a1,a2⟩
    .exact .inl ⟨by omega,by omega,a2⟩
    .exact .inr (.inr ⟨by omega,by omega,rfl,by omega⟩))
  exact⟨_,_,G_,FQ,h1,h2⟩
 have aa9:∀ {g':Zi} {w':Zc} {es:Array zc} {s' m' dd':Nat} {RB VE:Int},zd P false g w=.go g' w' es->Aside Wg w w'->WgAt ty Wg w' RB VE->(∀e∈es,Bk Wg e)->
   (∀jx e,es[jx]?=some e->(ZY e).touch?=none\/0<Yc dd (es.extract 0 jx))->WSit P ty Wg Ch (Pay i) (H.S (i+1)) (H.L (i+1)) s' 0 m' dd' (X i) g' w'->Yc dd es=dd'->s<=6->
   (∀Cs,(Cs=tag\/(tag=.blk/\Cs=.w3))->(ZcJ P g=true->g'.status=.running->Cs≠ .blk)->Yl j (upd D i ⟨s',m',dd'⟩) Cs RB VE)->(tag=.ret->AcqAll K Wg T₀ j (t++ZO (K+i) g.frame.fn g.frame.place es))->((s'<s/\cnt ⟨s',m',dd'⟩<=cnt (D i))\/(s'=s/\m'+1=m))->
   ∃m₁ ops G_,runT P (Ys gs w sl) (K+i)=(.next m₁,ops)/\Jr G_ (KG P ty Wg K j D E X q tag sub X0 f0)/\Inv P ty Wg Ch Pay K T₀ Shun w₀ S₀ L₀ Anch AU G_ m₁ (t++ops):=by
  intro g' w' es s' m' dd' RB VE hgo jT Lg Gj hd D5 Qo h6 G1 bV AA;refine qQ hgo jT Lg (F2 (p:=i+1) (K:=K) Gj (by rw[jT.size];exact AB.I5)) D5 Qo (by rw[<-oW];exact AB.e01 i hi (by omega)) (fun _=>?_) G1 bV AA;obtain⟨r,hr⟩:=AB.rel i hi (by omega);exact⟨r,Jp.book hr oX _ _ Gj hd⟩
 have book:∀ {g':Zi} {w':Zc} {es:Array zc} {s' m' dd':Nat} {RB VE:Int},zd P false g w=.go g' w' es->Aside Wg w w'->WgAt ty Wg w' RB VE->(∀e∈es,Bk Wg e)->
   (∀jx e,es[jx]?=some e->(ZY e).touch?=none\/0<Yc dd (es.extract 0 jx))->WSit P ty Wg Ch (Pay i) (H.S (i+1)) (H.L (i+1)) s' 0 m' dd' (X i) g' w'->Yc dd es=dd'->s<=6->
   Yl j (upd D i ⟨s',m',dd'⟩) tag RB VE->(tag=.ret->AcqAll K Wg T₀ j (t++ZO (K+i) g.frame.fn g.frame.place es))->((s'<s/\cnt ⟨s',m',dd'⟩<=cnt (D i))\/(s'=s/\m'+1=m))->
   ∃m₁ ops G_,runT P (Ys gs w sl) (K+i)=(.next m₁,ops)/\Jr G_ (KG P ty Wg K j D E X q tag sub X0 f0)/\Inv P ty Wg Ch Pay K T₀ Shun w₀ S₀ L₀ Anch AU G_ m₁ (t++ops):=
  fun hgo jT Lg Gj hd D5 Qo h6 G1 bV AA=>aa9 hgo jT Lg Gj hd D5 Qo h6 (fun _ ht _=>G1.retag ht) bV AA
 have idle:∀ {g':Zi} {m':Nat},zd P false g w=.go g' w #[]->WSit P ty Wg Ch (Pay i) (H.S (i+1)) (H.L (i+1)) s 0 m' dd (X i) g' w->m'+1=m->s<=7->e=0->s≠1->
   ∃m₁ ops G_,runT P (Ys gs w sl) (K+i)=(.next m₁,ops)/\Jr G_ (KG P ty Wg K j D E X q tag sub X0 f0)/\Inv P ty Wg Ch Pay K T₀ Shun w₀ S₀ L₀ Anch AU G_ m₁ (t++ops):=by
  intro g' m' hgo D5 hm h6 he0 h1;refine qQ hgo (.refl Wg w) Du (F2 (p:=i+1) (K:=K) (by simp) AB.I5) D5 rfl he0 (fun h=>?_) (fun _ ht _=>ConcN.Mode.retag (by have:=AP.same (i:=i) m' dd;rwa[B5]at this) ht) (fun e=>absurd e (AP.not_ret hi (by omega))) (.inr ⟨rfl,hm⟩);obtain⟨r,hr⟩:=AB.rel i hi (by omega);exact⟨r,Jp.book hr oX _ _ (by simp) (by simp)⟩
 cases hs with
 |wk h hr=>
  rcases h.at_ hr with⟨_,Bw,v,z,hsd,mr,m₂,hk⟩|⟨_,g',w',es,hgo,hG,h',hf⟩
  ·
   obtain⟨ord,tm,jE,qe,ho3⟩:=AB.ch;have hni:i∉ord:=fun hx=>by have:=((qe i).1 hx).2;omega
   have hlen:ord.length<2:=by
    match ord,jE,qe,hni with
    | [],_,_,_=>exact Nat.zero_lt_two
    | [x],_,_,_=>exact Nat.one_lt_two
    |x::y::l,h1,h2,h3=>
     exfalso;have hx:=((h2 x).1 (by simp)).1;have hy:=((h2 y).1 (by simp)).1;have hxy:x≠y:=fun e=>by subst e;simp at h1
     have hxi:x≠i:=fun e=>h3 (by simp[e]);have hyi:y≠i:=fun e=>h3 (by simp[e]);omega
   have mB:∀(k:Nat) x,gs[k]?=some x->x.status≠ .blocked\/x.offers=none:=by
    intro k x hk;have axO:=(Za.1 hk).1;have Ek:=AB.size;rcases z7 k with rfl|Uu
    .rw[ha]at hk;cases hk
     rcases hcs.status Ta hA with⟨h1,_⟩|⟨_,rfl⟩
     .exact .inl (by rw[h1];simp)
     .cases hcs with
      |blk hb=>exact .inr (hb w (Ai.refl w)).2.1
    .rcases Zaw k K with hkK|hkK
     .exact .inl (by rcases(AB.old k x Uu hkK hk).status with h1|h1<;>rw[h1]<;>simp)
     .obtain⟨y,hy,hsy⟩:=AB.wk (k - K) (by omega)
      rw[show K+(k - K)=k by omega,hk]at hy;cases hy;exact .inl (by rcases hsy.status with h1|⟨h1,_⟩<;>rw[h1]<;>simp)
   have FQ:=Q8 (P:=P) (sl:=sl) (i:=K+i) hg (by rw[Xf K i E7];exact hsd) ho3 (by simpa using hlen) mB;generalize uA:w.setChan Ch 2 ((ord.map vals).toArray.push v) false (ord.length+1) 0 tm=w' at FQ;have Td:w'.heap.size=w.heap.size:=by rw[<-uA];simp[Zb0]
   have Q9:∀b,b≠Ch->w'.heap[b]?=w.heap[b]? :=fun b hb=>by rw[<-uA];simp[Zb0,Zbq hb]
   have anq:w'.heap[Ch]?=some (.chan 2 ((ord.map vals).toArray.push v) false (ord.length+1) 0 tm):=by
    have:=AB.UR;rw[<-uA];simp[Zb0,this]
   have Fq:∀S:Nat->Prop,¬S Ch->Ai ty Wg S w w':=fun S hS=>⟨⟨fun b hb=>Q9 b (fun e=>hS (e▸hb)),ZcT Td.symm,by rw[<-uA];rfl⟩,fun⟨a,b,hl⟩=>⟨a,b,(Q9 Wg (Zbq AB.cw)).trans hl⟩⟩;have hW:Ip (H.S (i+1)) w w'=H.S (i+1):=by rw[S_ _ Td,H2]
   have T:Am ty Wg Ch (H.S (i+1)) (H.L (i+1)) w w':=⟨ZcT Td.symm,fun b _ _ _ h2=>Q9 b h2,by rw[<-uA];rfl,by rw[<-uA];rfl,by rw[<-uA];rfl,(Fq (fun _=>False) (fun h=>h)).live⟩;have hu:∀op∈(ZO (K+i) g.frame.fn g.frame.place #[]++ #[{g:=K+i,fn:=Bw.frame.fn,pos:=Bw.frame.place,act:=.send Ch ord.length}, {g:=K+i,fn:=Bw.frame.fn,pos:=Bw.frame.place,act:=.sendDone Ch ord.length}]:Y8),op.g=K+i/\(op.act=.send Ch ord.length\/op.act=.sendDone Ch ord.length):=by
    intro op hop;rw[Zcc]at hop;simp at hop;rcases hop with rfl|rfl
    .exact⟨rfl,.inl rfl⟩
    .exact⟨rfl,.inr rfl⟩
   have hut:∀op∈(ZO (K+i) g.frame.fn g.frame.place #[]++ #[{g:=K+i,fn:=Bw.frame.fn,pos:=Bw.frame.place,act:=.send Ch ord.length}, {g:=K+i,fn:=Bw.frame.fn,pos:=Bw.frame.place,act:=.sendDone Ch ord.length}]:Y8),op.act.touch?=none:=by
    intro op hop;rcases(hu op hop).2 with h|h<;>rw[h]<;>rfl
   have U:Lf Wg K H (i+1) w w' (ZO (K+i) g.frame.fn g.frame.place #[]++ #[{g:=K+i,fn:=Bw.frame.fn,pos:=Bw.frame.place,act:=.send Ch ord.length}, {g:=K+i,fn:=Bw.frame.fn,pos:=Bw.frame.place,act:=.sendDone Ch ord.length}]:Y8):=by
    have:=AB.UR;refine⟨fun op hop=>(hu op hop).1,fun op hop=>?_,fun op hop x hx=>(by rw[hut op hop]at hx;cases hx),fun op hop hx=>?_⟩
    .rcases(hu op hop).2 with h|h<;>rw[h]<;>(show Ch<_;omega)
    .rcases(hu op hop).2 with h|h<;>rw[h]at hx<;>cases hx
   have KD:Deaf (t++(ZO (K+i) g.frame.fn g.frame.place #[]++ #[{g:=K+i,fn:=Bw.frame.fn,pos:=Bw.frame.place,act:=.send Ch ord.length}, {g:=K+i,fn:=Bw.frame.fn,pos:=Bw.frame.place,act:=.sendDone Ch ord.length}]:Y8)) (K+i)=0:=by
    rw[ConcN.Deaf_still t _ _ fun op hop=>?_]
    .exact oX
    .rcases(hu op hop).2 with h|h<;>rw[h]<;>exact⟨by simp,by simp⟩
   have Cd:=AB.stepW hP hi (gs':=gs.setIfInBounds (K+i) (YZ Bw Zf)) (x':=X i) (s':=7) (e':=0) (m':=m₂) (dd':=0) (vals':=upd vals i v) T U (by rw[hW];exact .r0 (Yh Cy hk (Fq _ (AB.Ps _ hp)))) KD (fun h=>by omega) (by simp)
    (by simp[M4]) (fun k h1 h2=>by rw[Zk (Zbq h2)])
    ⟨ord++ [i],tm,by
     rw[List.nodup_append];refine⟨jE,by simp,fun a ha b hb=>?_⟩;simp at hb;subst hb;exact fun e=>hni (e▸ha),fun k=>by
     rw[Zas,qe k];constructor
     .rintro(⟨k1,k2⟩|k1)
      .refine⟨k1,?_⟩
       by_cases e:k=i
       .subst e;exact upd_same _ _ _
       .rw[upd_ne _ _ e];exact k2
      .simp at k1;subst k1
       exact⟨hi,upd_same _ _ _⟩
     .rintro⟨k1,k2⟩
      by_cases e:k=i
      .exact .inr (by simp[e])
      .rw[upd_ne _ _ e]at k2
       exact .inl ⟨k1,k2⟩,by
     rw[anq];have e1:(ord++ [i]).map (upd vals i v)=ord.map vals++ [v]:=by
      rw[Zaa,List.map_cons,List.map_nil,upd_same]
      congr 1
      refine List.map_congr_left fun k hk=>?_;exact upd_ne _ _ (fun e=>hni (e▸hk))
     rw[e1];simp⟩
    (fun k hk=>upd_ne _ _ hk) (fun _=>by rw[hW,upd_same];exact hP _ _ _ _ _ mr (Fq _ (AB.Ps _ hp))) (fun _=>rfl)
   have Lg:WgAt ty Wg w' st sm:=(Q9 Wg (Zbq AB.cw)).trans Du;have G1:Yl j (upd D i ⟨7,m₂,0⟩) tag st sm:=by have:=AP.same (i:=i) m₂ 0;rwa[B5]at this
   obtain⟨G_,h1,h2⟩:=workerStep (sl:=sl) Ta hA hcs hi (g:=g) (g':= {g with status:=.blocked}) (Fq _ (AB.Ps _ (Zn _))) (.inr ⟨by rw[Zk (by omega)];exact ha,fun _ h=>by simp at h⟩) Cd Lg (fun _ ht _=>G1.retag ht) (fun e=>absurd e (nr (by omega)))
    (.inl ⟨by omega,by omega,by simp[cnt,B5]⟩)
   exact⟨_,_,G_,FQ,h1,h2⟩
  ·
   have Jt:=AB.Pr.low (i+1) hp;have U:Lf Wg K H (i+1) w w' (ZO (K+i) g.frame.fn g.frame.place es):=Qq hG Jt;have T:Am ty Wg Ch (H.S (i+1)) (H.L (i+1)) w w':=Am.jQ hG jS AB.I5;have FQ:=Zb6 (P:=P) (sl:=sl) (i:=K+i) hg (by rw[Xf K i E7];exact hgo);have Qo:Yc 0 es=0:=deafBehind_idle (fun e he=>⟨(L5 (hG.evs e he)).1,(L5 (hG.evs e he)).2.1⟩) 0;have he1:upd E i 1=E:=by rw[<-oW];exact qP E i
   have Cd:=AB.stepW hP hi (gs':=(gs.map (woken P g g' w')).setIfInBounds (K+i) g') T U (.wk h' (Ai.refl _)) (by rw[Deaf_own,oX];exact Qo) (fun h=>by omega) (by simp) (Zbv _ _ _ M4)
    (fun k h1 h2=>AB.Gv g g' w' _ h1 h2) (vals':=vals) (by rw[he1];exact AB.ch.CX (hG.still Ch AB.UR (.inl (AB.Ps _ hp)))) (fun _ _=>rfl) (fun h=>by omega) (fun h=>by omega)
   have Lg:WgAt ty Wg w' st sm:=(hG.still Wg AB.I5 (.inl jS)).trans Du;have G1:Yl j (upd D i ⟨7,0,0⟩) tag st sm:=by have:=AP.same (i:=i) 0 0;rwa[B5]at this
   obtain⟨G_,h1,h2⟩:=workerStep (sl:=sl) Ta hA hcs hi (g:=g) (g':=g') (AB.Xc hp T (Zn _) (by omega)) (.inl (by rw[Zcg _ _ _ _ (by omega),ha];rfl)) Cd Lg (fun _ ht _=>G1.retag ht) (fun e=>absurd e (nr (by omega)))
    (.inr (.inl ⟨B5.symm,oW.symm,hfu.symm,by rw[fT];exact hf⟩))
   exact⟨_,_,G_,FQ,h1,h2⟩
 |r0 h=>
  rcases Ya h with By|⟨m',rfl,Bm⟩
  .obtain⟨_,g',hgo,m₂,hk⟩:=By w (Ai.refl w)
   have uB:=AB.I5;refine qQ hgo (.refl Wg w) Du (IB (p:=i+1) (K:=K) (by exact uB) (by simp) (.inl rfl)) (.k1 hk) rfl rfl (fun _=>?_) (fun _ ht _=>(AP.counted hi (by omega) (.inl rfl) _ _).retag ht) (fun e=>absurd e (nr (by omega))) (.inl ⟨by omega,by simp[cnt,B5]⟩);refine⟨t.size,RelBy.new (by rw[oX]) _ _,AB.told,fun k a ha _ hgk=>.inl ?_⟩;obtain⟨x,hx,_⟩:=ZbJ ha;have:=lt_size_of_getElem? hx;rw[Zcc]at this;simp at this;omega
  .obtain⟨g',w',es,hgo,⟨rfl,rfl⟩,G2⟩:=Bm w (Ai.refl w)
   exact idle hgo (.r0 G2) rfl (by omega) rfl (by omega)
 |k1 h=>
  rcases Ya h with By|⟨m',rfl,Bm⟩
  .obtain⟨_,g',hgo,m₂,hk⟩:=By w (Ai.refl w)
   exact book hgo (.refl Wg w) Du (by intro e he;simp at he;subst he;exact .inl rfl) (by intro jx e he;exact .inl (by have:=zC he;simp at this;subst this;rfl)) (.d1 hk) rfl (by omega)
    (AP.counted hi (by omega) (.inr rfl) _ _) (fun e=>absurd e (nr (by omega))) (.inl ⟨by omega,by simp[cnt,B5]⟩)
  .obtain⟨g',w',es,hgo,⟨rfl,rfl⟩,G2⟩:=Bm w (Ai.refl w)
   exact idle hgo (.k1 G2) rfl (by omega) rfl (by omega)
 |d1 h=>
  rcases Ya h with By|⟨m',rfl,Bm⟩
  .obtain⟨_,Eb⟩:=By w (Ai.refl w)
   have NC:cnt (D i)=1:=by simp[cnt,B5]
   have hV1:1<=Vc j D:=by have:=le_sumTo (f:=fun x=>cnt (D x)) hi;simp only[Vc];omega
   have bk2:∀e∈#[rd (stA Wg),wr (stA Wg)],Bk Wg e:=by intro e he;simp at he;rcases he with rfl|rfl<;>exact bk_cell _ _ rfl
   have df2:∀jx e,(#[rd (stA Wg),wr (stA Wg)]:Array zc)[jx]?=some e->(ZY e).touch?=none\/0<Yc 1 ((#[rd (stA Wg),wr (stA Wg)]:Array zc).extract 0 jx):=by
    intro jx e he
    match jx,he with
    |0,_=>exact .inr (by simp[Yc])
    |1,_=>exact .inr (by simp[Yc,rd])
    |jx+2,he=>simp at he
   have hq0:∀q,cnt (⟨1,q,1⟩:WD)=0:=fun _=>rfl;have opq:∀q,OpenSt j D->OpenSt j (upd D i ⟨1,q,1⟩):=fun q h a ha=>by
    by_cases e:a=i
    .subst e;rw[upd_same];simp
    .rw[upd_ne D _ e];exact h a ha
   cases AP with
   |opn h1 h2 h3=>
    obtain⟨v,hv⟩:∃v,Vc j D+pend tag=v+1:=⟨Vc j D+pend tag - 1,by omega⟩;rw[hv]at Du;have hw1:WgAt ty Wg w (((v:Nat)+1)*KK+((0:Nat):Int)) 0:=by simpa using Du
    obtain⟨g',hgo,_,hq⟩:=Eb v 0 (by omega) (by omega) hw1;obtain⟨q,hq⟩:=hq (by omega);have Vm:Vc j (upd D i ⟨1,q,1⟩)+pend tag=v:=by have:=Vc_upd D (⟨1,q,1⟩:WD) hi;have:=hq0 q;omega
    refine book hgo (Zad w (stA Wg) _) (Du.setSt _) bk2 df2 (.quit hq) rfl (by omega) ?_ (fun e=>absurd e (nr (by omega))) (.inl ⟨by omega,by simp[cnt]⟩);have e:((v:Nat):Int)*KK+((0:Nat):Int)=((Vc j (upd D i ⟨1,q,1⟩)+pend tag:Nat):Int)*KK:=by rw[Vm];simp
    rw[e];exact .opn h1 (opq q h2) (fun vs ev=>by have:=h3 vs ev;omega)
   |reg h1 h2 h3=>
    obtain⟨v,hv⟩:∃v,Vc j D=v+1:=⟨Vc j D - 1,by omega⟩;rw[hv]at Du;have hp:pend tag=0:=by cases tag<;>first|rfl|exact h1.elim
    have hw1:WgAt ty Wg w (((v:Nat)+1)*KK+((1:Nat):Int)) 0:=by simpa using Du
    obtain⟨g',hgo,hl,hq⟩:=Eb v 1 (by omega) (by omega) hw1;by_cases aD:v=0
    .subst aD
     obtain⟨m₂,hk⟩:=hl ⟨rfl,rfl⟩;refine book hgo (Zad w (stA Wg) _) (Du.setSt _) bk2 df2 (.d2 hk) rfl (by omega) ?_ (fun e=>absurd e (nr (by omega))) (.inl ⟨by omega,by simp[cnt]⟩);have Q9:∀a,a<j->a≠i->(D a).stage=1:=fun a ha e=>by
      have c0:=others_uncounted hi hv NC a ha e;have:=h2 a ha;simp only[cnt]at c0;split at c0<;>omega
     have:=Zca (j:=j) (D:=upd D i ⟨4,m₂,1⟩) (tag:=tag) i h1 hi (by rw[upd_same];simp) (fun a ha e=>by rw[upd_ne D _ e];exact Q9 a ha e);rw[upd_same]at this;simpa using this
    .obtain⟨q,hq⟩:=hq (by omega)
     have Vm:Vc j (upd D i ⟨1,q,1⟩)=v:=by have:=Vc_upd D (⟨1,q,1⟩:WD) hi;have:=hq0 q;omega
     refine book hgo (Zad w (stA Wg) _) (Du.setSt _) bk2 df2 (.quit hq) rfl (by omega) ?_ (fun e=>absurd e (nr (by omega))) (.inl ⟨by omega,by simp[cnt]⟩);have e:((v:Nat):Int)*KK+((1:Nat):Int)=((Vc j (upd D i ⟨1,q,1⟩):Nat):Int)*KK+1:=by rw[Vm];simp
     rw[e];exact .reg h1 (opq q h2) (by omega)
   |last L _ h2 h3 h4=>
    by_cases e:i=L
    .subst e;omega
    .have:=h4 i hi e;omega
   |sema h2=>have:=h2 i hi;omega
   |fin _ h2=>have:=h2 i hi;omega
  .obtain⟨g',w',es,hgo,⟨rfl,rfl⟩,G2⟩:=Bm w (Ai.refl w)
   exact idle hgo (.d1 G2) rfl (by omega) rfl (by omega)
 |d2 h=>
  rcases Ya h with By|⟨m',rfl,Bm⟩
  .obtain⟨_,hx⟩:=By w (Ai.refl w)
   obtain⟨H3,Q9,rfl,rfl⟩:=AP.isLast hi (by omega);simp only[B5]at Du;obtain⟨g',hgo,m₂,hk⟩:=hx (by simpa using Du);refine book hgo (.refl Wg w) Du (by intro e he;simp at he;subst he;exact bk_cell _ _ rfl) (by intro jx e he;match jx,he with|0,_=>exact .inr (by simp[Yc])|jx+1,he=>simp at he) (.d3 hk) rfl (by omega) ?_ (fun e=>absurd e (nr (by omega))) (.inl ⟨by omega,by simp[cnt]⟩);have:=Zca (j:=j) (D:=upd D i ⟨3,m₂,1⟩) (tag:=tag) i H3 hi (by rw[upd_same];simp) (fun a ha e=>by rw[upd_ne D _ e];exact Q9 a ha e);rw[upd_same]at this;simpa using this
  .obtain⟨g',w',es,hgo,⟨rfl,rfl⟩,G2⟩:=Bm w (Ai.refl w)
   exact idle hgo (.d2 G2) rfl (by omega) rfl (by omega)
 |d3 h=>
  rcases Ya h with By|⟨m',rfl,Bm⟩
  .obtain⟨_,hx⟩:=By w (Ai.refl w)
   obtain⟨H3,Q9,rfl,rfl⟩:=AP.isLast hi (by omega);simp only[B5]at Du;obtain⟨g',hgo,m₂,hk⟩:=hx (by simpa using Du);refine book hgo (Zad w (stA Wg) _) (Du.setSt 0) (by intro e he;simp at he;subst he;exact bk_cell _ _ rfl) (by intro jx e he;match jx,he with|0,_=>exact .inr (by simp[Yc])|jx+1,he=>simp at he) (.d4 hk) rfl (by omega) ?_ (fun e=>absurd e (nr (by omega))) (.inl ⟨by omega,by simp[cnt]⟩);have:=Zca (j:=j) (D:=upd D i ⟨2,m₂,1⟩) (tag:=tag) i H3 hi (by rw[upd_same];simp) (fun a ha e=>by rw[upd_ne D _ e];exact Q9 a ha e);rw[upd_same]at this;simpa using this
  .obtain⟨g',w',es,hgo,⟨rfl,rfl⟩,G2⟩:=Bm w (Ai.refl w)
   exact idle hgo (.d3 G2) rfl (by omega) rfl (by omega)
 |d4 h=>
  rcases Ya h with By|⟨m',rfl,Bm⟩
  .obtain⟨_,hmw,hx⟩:=By w (Ai.refl w)
   obtain⟨H3,Q9,rfl,rfl⟩:=AP.isLast hi (by omega);simp only[B5]at Du;obtain⟨g',hgo,q,hq⟩:=hx (by simpa using Du);have VF:g'.status=.running:=by
    cases q with
    |zero=>exact absurd hq.2 (by decide)
    |succ q=>exact hq.elim (fun x=>absurd x.2 (by decide)) (fun x=>x.1)
   refine aa9 hgo (Zad w (smA Wg) _) (Du.setSm 1) (es:=ZaD (smA Wg)) ?_ ?_ (.quit hq) (by simp[Yc,ZaD]) (by omega) ?_ (fun e=>absurd e (nr (by omega))) (.inl ⟨by omega,by simp[cnt]⟩)
   .intro e he
    simp[ZaD]at he;rcases he with rfl|rfl|rfl|rfl
    .exact .inl rfl
    .exact bk_cell _ _ rfl
    .exact bk_cell _ _ rfl
    .exact .inr (.inl rfl)
   .intro jx e he
    match jx,he with
    |0,he=>simp[ZaD]at he;subst he;exact .inl rfl
    |1,_=>exact .inr (by simp[Yc,ZaD])
    |2,_=>exact .inr (by simp[Yc,ZaD])
    |3,he=>simp[ZaD]at he;subst he;exact .inl rfl
    |jx+4,he=>simp[ZaD]at he
   .intro Cs ht hw
    have hnb:=hw hmw VF;have e3:Cs=.w3:=by
     rcases ht with rfl|⟨_,rfl⟩
     .cases Cs<;>first|rfl|exact H3.elim|exact absurd rfl hnb
     .rfl
    subst e3;simp only[if_true];exact .sema fun a ha=>by
     by_cases e:a=i
     .subst e;rw[upd_same]
     .rw[upd_ne D _ e];exact Q9 a ha e
  .obtain⟨g',w',es,hgo,⟨rfl,rfl⟩,G2⟩:=Bm w (Ai.refl w)
   exact idle hgo (.d4 G2) rfl (by omega) rfl (by omega)
 |quit h=>
  cases m with
  |zero=>rw[h.1]at BD;cases BD
  |succ q=>
   rcases h with⟨hf,_⟩|⟨_,g',es,aad,Bm,hq⟩
   .rw[hf]at BD;cases BD
   .have Gj:∀e∈es,Bk Wg e:=fun e he=>Go.ConcR.bk_of_mute (aad e he)
    have K9:∀jx e,es[jx]?=some e->(ZY e).touch?=none\/0<Yc dd (es.extract 0 jx):=fun jx e he=>.inl (touch_mute (aad e (zC he)));refine book (Bm w) (.refl Wg w) Du Gj K9 (.quit hq) rfl (by omega) (by have:=AP.same (i:=i) q (Yc dd es);rwa[B5]at this) (fun e=>(Js e).app fun i' r Da hr=>?_) (.inr ⟨rfl,rfl⟩);by_cases e':i'=i
    .subst e';exact Jp.book hr oX _ _ Gj K9
    .exact Jp.other hr fun op hop=>by
      obtain⟨e,_,rfl⟩:=ZW hop;show K+i≠K+i';omega
end
end Go.Pair
namespace Go.Pair
open Go Go.Conc Go.FO
open Go.ConcN (PermW RelBy WgLive CTag phi pend isOpen isW3 isFin OpenSt AllQuit WD Vc Ssum Fsum cnt sumTo sumTo_upd sumTo_congr sumTo_upd_out upd upd_same upd_ne phi_mono phi_retag allQuit_of bk_cell bk_dis bk_en bk_rd bk_rw bk_sem)
open Go.ConcR (KK WgAt stA smA rd wr mk DC0 Bk g_of_ofEvents)
section
variable(P:Zp)(ty:Zr)(Wg Ch:Nat)(Pay:Nat->Gu)(K T₀:Nat)(Shun:Loc->Prop)(w₀:Zc)(S₀ L₀:Nat->Prop)(Anch AU:Ci)
def Fin (m:Machine)(t:Y8):Prop:=
 ∃(gs:Array Zi) (w:Zc) (sl:Option (Nat×Nat)) (D:Nat->WD) (E:Nat->Nat) (X:Nat->Fuel P ty Wg) (H:JZ) (q:Nat->Nat) (vals:Nat->Ze) (a:Zi),
  m=Ys gs w sl/\gs[0]?=some a/\Anch (H.S 0) a w/\Com P ty Wg Ch Pay K T₀ Shun w₀ S₀ L₀ 2 gs w t D E X H q 0 vals/\WgAt ty Wg w 0 0/\AllQuit 2 D/\AcqAll K Wg T₀ 2 t
end
section
variable {P:Zp}{ty:Zr}{Wg Ch:Nat}{Pay:Nat->Gu}{K T₀:Nat}{Shun:Loc->Prop}{w₀:Zc}{S₀ L₀:Nat->Prop}{Anch AU:Ci}
 {j:Nat} {gs:Array Zi} {w:Zc} {t:Y8} {D:Nat->WD} {E:Nat->Nat} {X:Nat->Fuel P ty Wg} {H:JZ} {q:Nat->Nat} {d0:Nat} {vals:Nat->Ze} {tag:CTag} {sub f0:Nat} {X0:Fuel P ty Wg} {a:Zi} {sl:Option (Nat×Nat)} {st sm:Int}
variable {g g' a':Zi}
variable {w' w₁ w₂:Zc}
variable {es:Array zc}
variable {Cs:CTag}
variable {p b i k s' e' m' dd' d Ld f' m n:Nat}
variable {RB VE:Int}
def bookC (hP:Jq ty Wg Pay)(ha:gs[0]?=some a)(AB:Com P ty Wg Ch Pay K T₀ Shun w₀ S₀ L₀ j gs w t D E X H q d0 vals)
 {oY:Fuel P ty Wg} (hgo:zd P true a w=.go a' w' es) (jT:Aside Wg w w') (Lg:WgAt ty Wg w' RB VE)
 (U:Lf Wg K H 0 w w' (ZO 0 a.frame.fn a.frame.place es)) (K6:CSit P ty Wg Ch Pay Anch AU (H.S 0) (H.L 0) Cs Ld j f' oY (Yc d0 es) a' w') (AP:Yl j D Cs RB VE)
 (Js:Cs=.ret->AcqAll K Wg T₀ j (t++ZO 0 a.frame.fn a.frame.place es))
 (AA:phi 2 (Vc j D) Cs+Ld<phi 2 (Vc j D) tag+sub\/(phi 2 (Vc j D) Cs+Ld=phi 2 (Vc j D) tag+sub/\(Fuel.lt oY X0\/(oY=X0/\f'<f0)))):
  ∃m₁ ops G_,runT P (Ys gs w sl) 0=(.next m₁,ops)/\Jr G_ (KG P ty Wg K j D E X q tag sub X0 f0)/\Inv P ty Wg Ch Pay K T₀ Shun w₀ S₀ L₀ Anch AU G_ m₁ (t++ops):=by
 have Kt:WgLive ty Wg w':=⟨_,_,Lg⟩;have hW:Ip (H.S 0) w w'=H.S 0:=by rw[S_ _ jT.size,H2]
 have T:Am ty Wg Ch (H.S 0) (H.L 0) w w':=Mz jT Kt;have FQ:=Zb6 (P:=P) (sl:=sl) (i:=0) ha (by simpa using hgo);have M4:0<gs.size:=(Za.1 ha).1;have Cd:=AB.step0 hP (gs':=(gs.map (woken P a a' w')).setIfInBounds 0 a') (by simp) (fun k hk=>AB.Gv a a' w' 0 hk (by omega)) T U (jT.block Ch AB.cw);rw[Deaf_own,AB.deaf0]at Cd;obtain⟨G_,h1,h2⟩:=callerStep (sl:=sl) (tag:=tag) (sub:=sub) (X0:=X0) (f0:=f0) (a':=a') (by simp[M4]) Cd (by rw[hW];exact K6) Lg AP Js AA;exact⟨_,_,G_,FQ,h1,h2⟩
def idleC (hP:Jq ty Wg Pay)(ha:gs[0]?=some a)(AB:Com P ty Wg Ch Pay K T₀ Shun w₀ S₀ L₀ j gs w t D E X H q d0 vals)(Du:WgAt ty Wg w st sm)(AP:Yl j D tag st sm)(Js:tag=.ret->AcqAll K Wg T₀ j t)
 (hgo:zd P true a w=.go a' w #[]) (K6:CSit P ty Wg Ch Pay Anch AU (H.S 0) (H.L 0) tag sub j f' X0 d0 a' w) (AA:f'<f0):
  ∃m₁ ops G_,runT P (Ys gs w sl) 0=(.next m₁,ops)/\Jr G_ (KG P ty Wg K j D E X q tag sub X0 f0)/\Inv P ty Wg Ch Pay K T₀ Shun w₀ S₀ L₀ Anch AU G_ m₁ (t++ops):=
 bookC hP ha AB hgo (.refl Wg w) Du (F2 (p:=0) (K:=K) (by simp) AB.I5) K6 AP (fun e=>(Js e).app fun i r _ hr=>Jp.other hr fun op hop=>by
  obtain⟨e,he,_⟩:=ZW hop;simp at he) (.inr ⟨rfl,.inr ⟨rfl,AA⟩⟩)
def aae (hP:Jq ty Wg Pay)(ha:gs[0]?=some a)(AB:Com P ty Wg Ch Pay K T₀ Shun w₀ S₀ L₀ j gs w t D E X H q 0 vals)(Du:WgAt ty Wg w st sm)(AP:Yl j D tag st sm)(Bn:tag≠ .ret)
 {oY:Fuel P ty Wg} (hgo:zd P true a w=.go a' w' es) (hG:Mq (H.S 0) (H.L 0) w w' es)
 (K6:CSit P ty Wg Ch Pay Anch AU (Ip (H.S 0) w w') (H.L 0) tag sub j 0 oY 0 a' w') (AA:Fuel.lt oY X0):
  ∃m₁ ops G_,runT P (Ys gs w sl) 0=(.next m₁,ops)/\Jr G_ (KG P ty Wg K j D E X q tag sub X0 f0)/\Inv P ty Wg Ch Pay K T₀ Shun w₀ S₀ L₀ Anch AU G_ m₁ (t++ops):=by
 have hz:(0:Nat)<=j:=Zn _;have jS:=AB.Pr.wg 0 hz;have U:Lf Wg K H 0 w w' (ZO 0 a.frame.fn a.frame.place es):=Qq hG (AB.Pr.low 0 hz);have T:Am ty Wg Ch (H.S 0) (H.L 0) w w':=Am.jQ hG jS AB.I5;have FQ:=Zb6 (P:=P) (sl:=sl) (i:=0) ha (by simpa using hgo);have M4:0<gs.size:=(Za.1 ha).1;have Cd:=AB.step0 hP (gs':=(gs.map (woken P a a' w')).setIfInBounds 0 a') (by simp) (fun k hk=>AB.Gv a a' w' 0 hk (by omega)) T U (hG.still Ch AB.UR (.inl (AB.Ps 0 hz)));rw[Deaf_own,AB.deaf0,ConcN.deafBehind_idle (fun e he=>⟨(L5 (hG.evs e he)).1,(L5 (hG.evs e he)).2.1⟩)]at Cd;obtain⟨G_,h1,h2⟩:=callerStep (sl:=sl) (tag:=tag) (sub:=sub) (X0:=X0) (f0:=f0) (a':=a') (by simp[M4]) Cd K6 ((hG.still Wg AB.I5 (.inl jS)).trans Du) AP (fun e=>absurd e Bn) (.inr ⟨rfl,.inl AA⟩);exact⟨_,_,G_,FQ,h1,h2⟩
def w1Step (hP:Jq ty Wg Pay)(ha:gs[0]?=some a)(AB:Com P ty Wg Ch Pay K T₀ Shun w₀ S₀ L₀ 2 gs w t D E X H q 1 vals)(Du:WgAt ty Wg w st sm)(AP:Yl 2 D .w1 st sm)(h:Goes P true (Ai ty Wg (H.S 0)) DC0 (AtW1 P ty Wg Anch AU (H.S 0)) m a w)(hb:phi 2 (Vc 2 D) .w1<phi 2 (Vc 2 D) tag+sub\/(tag=.w1/\sub=0/\f0=m)):
  ∃m₁ ops G_,runT P (Ys gs w sl) 0=(.next m₁,ops)/\Jr G_ (KG P ty Wg K 2 D E X q tag sub X0 f0)/\Inv P ty Wg Ch Pay K T₀ Shun w₀ S₀ L₀ Anch AU G_ m₁ (t++ops):=by
 have hVj:=ZdQ 2 D;have GZ:phi 2 (Vc 2 D) .w1<=phi 2 (Vc 2 D) tag+sub:=by
  rcases hb with h|⟨rfl,rfl,_⟩<;>omega
 rcases Ya h with By|⟨m',rfl,Bm⟩
 .obtain⟨_,Eb⟩:=By w (Ai.refl w)
  obtain⟨ho,rfl,rfl,_⟩:=AP.open_inv trivial;obtain⟨a',hgo,h0,h1⟩:=Eb (Vc 2 D) (by omega) (by simpa[pend]using Du);by_cases e:Vc 2 D=0
  .obtain⟨m₂,hk⟩:=h0 e
   refine bookC hP ha AB hgo (.refl Wg w) Du (F2 (p:=0) (K:=K) bk_rd AB.I5) (.ke (X:=X0) hk) ?_ (by simp) (.inl (by simp only[phi]at GZ⊢;omega));have:((Vc 2 D+pend CTag.w1:Nat):Int)*KK=0:=by rw[e];simp[pend]
   rw[this];exact .fin trivial (allQuit_of ho e)
  .obtain⟨m₂,hk⟩:=h1 e
   exact bookC hP ha AB hgo (.refl Wg w) Du (F2 (p:=0) (K:=K) bk_rd AB.I5) (.w2 (X:=X0) hk) (AP.reopen trivial trivial rfl (fun vs ev=>by cases ev;omega)) (by simp) (.inl (by simp only[phi]at GZ⊢;omega))
 .obtain⟨a',w',es,hgo,⟨rfl,rfl⟩,G2⟩:=Bm w (Ai.refl w)
  refine bookC hP ha AB hgo (.refl Wg _) Du (F2 (p:=0) (K:=K) (by simp) AB.I5) (.w1 (X:=X0) G2) AP (by simp) ?_;rcases hb with h|⟨rfl,rfl,rfl⟩
  .exact .inl (by omega)
  .exact .inr ⟨rfl,.inr ⟨rfl,by omega⟩⟩
def stepCaller (hP:Jq ty Wg Pay)(hAn:∀S g w,AU S g w->∃m,Goes P true (Ai ty Wg S) DC0 (AtW1 P ty Wg Anch AU S) m g w)
 (ha:gs[0]?=some a) (hcs:CSit P ty Wg Ch Pay Anch AU (H.S 0) (H.L 0) tag sub j f0 X0 d0 a w) (AB:Com P ty Wg Ch Pay K T₀ Shun w₀ S₀ L₀ j gs w t D E X H q d0 vals) (Du:WgAt ty Wg w st sm) (AP:Yl j D tag st sm)
 (Js:tag=.ret->AcqAll K Wg T₀ j t) (BD:a.status=.running) (hnf:¬(tag=.ret/\∀w₁,Ai ty Wg (H.S 0) w w₁->Anch (H.S 0) a w₁)):
  ∃m₁ ops G_,runT P (Ys gs w sl) 0=(.next m₁,ops)/\Jr G_ (KG P ty Wg K j D E X q tag sub X0 f0)/\Inv P ty Wg Ch Pay K T₀ Shun w₀ S₀ L₀ Anch AU G_ m₁ (t++ops):=by
 have hVj:=ZdQ j D;have uB:=AB.I5;have Gj:∀ {es:Array zc} {fn:ZaV} {pos:String} {w':Zc},w'.heap.size=w.heap.size->(∀e∈es,Bk Wg e)->Lf Wg K H 0 w w' (ZO 0 fn pos es):=fun hs hb=>F2 (p:=0) (K:=K) hb (by rw[hs];exact uB);have A8:∀(a:Addr) (v:Ze),(w.setCell a v).heap.size=w.heap.size:=fun a v=>by simp[zb]
 cases hcs with
 |skd hr h hw=>
  rename_i r;rcases h.at_ hw with⟨_,a',hgo,m₂,hk⟩|⟨_,a',w',es,hgo,hG,h',hf⟩
  .exact bookC hP ha AB hgo (.refl Wg w) Du (Gj rfl bk_dis) (.sa1 (X:=h.fuel) hr hk) (AP.reopen trivial trivial rfl (by simp)) (by simp) (.inl (by simp only[phi];omega))
  .exact aae hP ha AB Du AP (by simp) hgo hG (.skd hr h' (Ai.refl _)) hf
 |sa1 hr h=>
  rename_i r;rcases Ya h with By|⟨m',rfl,Bm⟩
  .obtain⟨_,Eb⟩:=By w (Ai.refl w)
   obtain⟨ho,rfl,rfl,_⟩:=AP.open_inv trivial;obtain⟨a',hgo,h0,h1⟩:=Eb (Vc (2 - (r+1)) D) (by omega) (by simpa[pend]using Du);have e:(((Vc (2 - (r+1)) D:Nat):Int)+1)*KK=((Vc (2 - (r+1)) D+pend (.sp r 3):Nat):Int)*KK:=by simp[pend]
   have hm:Yl (2 - (r+1)) D (.sp r 3) ((((Vc (2 - (r+1)) D:Nat):Int)+1)*KK) 0:=by
    rw[e];exact .opn trivial ho (by simp)
   by_cases e0:Vc (2 - (r+1)) D=0
   .obtain⟨m₂,hk⟩:=h0 e0
    exact bookC hP ha AB hgo (Zad w (stA Wg) _) (Du.setSt _) (Gj (A8 _ _) bk_rw) (.ssr (X:=X0) hr hk) hm (by simp) (.inl (by simp only[phi];omega))
   .obtain⟨m₂,hk⟩:=h1 e0
    exact bookC hP ha AB hgo (Zad w (stA Wg) _) (Du.setSt _) (Gj (A8 _ _) bk_rw) (.ske (X:=X0) hr hk) hm (by simp) (.inl (by simp only[phi];omega))
  .obtain⟨a',w',es,hgo,⟨rfl,rfl⟩,G2⟩:=Bm w (Ai.refl w)
   exact idleC hP ha AB Du AP (by simp) hgo (.sa1 hr G2) (by omega)
 |ssr hr h=>
  rename_i r;rcases Ya h with By|⟨m',rfl,Bm⟩
  .obtain⟨_,a',hgo,m₂,hk⟩:=By w (Ai.refl w)
   exact bookC hP ha AB hgo (.refl Wg w) Du (IB (p:=0) (K:=K) (by exact uB) (by simp) (.inr ⟨rfl,smA Wg,rfl,false,rfl⟩)) (.ske (X:=X0) hr hk) AP (by simp) (.inl (by omega))
  .obtain⟨a',w',es,hgo,⟨rfl,rfl⟩,G2⟩:=Bm w (Ai.refl w)
   exact idleC hP ha AB Du AP (by simp) hgo (.ssr hr G2) (by omega)
 |ske hr h=>
  rcases Ya h with By|⟨m',rfl,Bm⟩
  .obtain⟨_,a',hgo,m₂,hk⟩:=By w (Ai.refl w)
   exact bookC hP ha AB hgo (.refl Wg w) Du (Gj rfl bk_en) (.sgo (X:=X0) hr hk) (AP.reopen trivial trivial rfl (by simp)) (by simp) (.inl (by simp only[phi];omega))
  .obtain⟨a',w',es,hgo,⟨rfl,rfl⟩,G2⟩:=Bm w (Ai.refl w)
   exact idleC hP ha AB Du AP (by simp) hgo (.ske hr G2) (by omega)
 |sgo hr h=>
  rename_i r;rcases Ya h with By|⟨m',rfl,Bm⟩
  .obtain⟨_,a',child,KE,hwk,Qr⟩:=By w (Ai.refl w)
   obtain⟨ho,rfl,rfl,_⟩:=AP.open_inv trivial;have VF:=runT_crowd_spawn (P:=P) (sl:=sl) (i:=0) ha (by simpa using KE);have E7:=AB.pos;rw[AB.size]at VF;have Cd:=AB.spawn (a':=a') (x:= {g:=0,fn:=a.frame.fn,pos:=a.frame.place,act:=.go (K+(2 - (r+1)))}) (y:= {g:=K+(2 - (r+1)),fn:=child.frame.fn,pos:=a.frame.place,act:=.start}) ⟨rfl,rfl⟩ ⟨rfl,rfl⟩ hwk;have eV:Vc (2 - (r+1)+1) (upd D (2 - (r+1)) ⟨7,0,0⟩)=Vc (2 - (r+1)) D+1:=by
    simp only[Vc,sumTo,upd_same];rw[sumTo_upd_out D _ cnt (Zj _)];rfl
   have eS:Ssum (2 - (r+1)+1) (upd D (2 - (r+1)) ⟨7,0,0⟩)=Ssum (2 - (r+1)) D+7:=by
    simp only[Ssum,sumTo,upd_same];rw[sumTo_upd_out D _ WD.stage (Zj _)]
   have eE:sumTo (2 - (r+1)+1) (upd E (2 - (r+1)) 1)=sumTo (2 - (r+1)) E+1:=by
    simp only[sumTo,upd_same];have:=sumTo_upd_out E 1 id (Zj (2 - (r+1)));have e1:(sumTo (2 - (r+1)) fun a=>id (upd E (2 - (r+1)) 1 a))=sumTo (2 - (r+1)) (upd E (2 - (r+1)) 1):=rfl;have e2:(sumTo (2 - (r+1)) fun a=>id (E a))=sumTo (2 - (r+1)) E:=rfl;rw[e1,e2]at this;rw[this]
   have aM:OpenSt (2 - (r+1)+1) (upd D (2 - (r+1)) ⟨7,0,0⟩):=fun i hi=>by
    by_cases e:i=2 - (r+1)
    .subst e;rw[upd_same];simp
    .rw[upd_ne D _ e];exact ho i (by omega)
   have ha':((gs.setIfInBounds 0 a').push child)[0]?=some a':=by
    have Ek:=AB.size;rw[Zd2 (by simp;omega), <-ZC,Z5 (by omega)]
   have hS0:((H.set (2 - (r+1)+1) (H.S 0) (H.S 0)).set 0 (H.S 0) (H.S 0)).S 0=H.S 0:=(AZ _ _ _).1;have hL0:((H.set (2 - (r+1)+1) (H.S 0) (H.S 0)).set 0 (H.S 0) (H.S 0)).L 0=H.S 0:=(AZ _ _ _).2;have est:∀Cs,pend Cs=0->((Vc (2 - (r+1)) D+pend (.sp r 2):Nat):Int)*KK=((Vc (2 - (r+1)+1) (upd D (2 - (r+1)) ⟨7,0,0⟩)+pend Cs:Nat):Int)*KK:=fun Cs hp=>by rw[eV,hp];simp[pend]
   have anr:((ZO 0 a.frame.fn a.frame.place #[]).push {g:=0,fn:=a.frame.fn,pos:=a.frame.place,act:=.go (K+(2 - (r+1)))}).push {g:=K+(2 - (r+1)),fn:=child.frame.fn,pos:=a.frame.place,act:=.start}= #[{g:=0,fn:=a.frame.fn,pos:=a.frame.place,act:=.go (K+(2 - (r+1)))}, {g:=K+(2 - (r+1)),fn:=child.frame.fn,pos:=a.frame.place,act:=.start}]:=by
    rw[Zcc];simp
   rw[anr]at VF;have aE:r=0\/r=1:=by omega
   rcases aE with rfl|rfl
   .refine⟨_,_,_,VF,?_,_,w,sl,2,_,_,_,_,q,0,vals,.kd,0,0,Bf.fuel Qr,a',_,_,rfl,ha',?_,Cd,Du,?_,by simp,rfl⟩
    .have eV':Vc 2 (upd D 1 ⟨7,0,0⟩)=Vc 1 D+1:=eV
     have eS':Ssum 2 (upd D 1 ⟨7,0,0⟩)=Ssum 1 D+7:=eS;have eE':sumTo 2 (upd E 1 1)=sumTo 1 E+1:=eE;refine mu1 ?_;show phi 2 _ .kd+0+Ssum 2 (upd D 1 ⟨7,0,0⟩)+sumTo 2 (upd E 1 1)<phi 2 _ (.sp 0 2)+0+Ssum 1 D+sumTo 1 E;simp only[phi];omega
    .rw[hS0,hL0]
     exact .kd Qr (Ai.refl w)
    .rw[est .kd rfl]
     exact .opn trivial aM (by simp)
   .refine⟨_,_,_,VF,?_,_,w,sl,1,_,_,_,_,q,0,vals,.sp 0 5,1,0,Bf.fuel Qr,a',_,_,rfl,ha',?_,Cd,Du,?_,by simp,rfl⟩
    .have eS':Ssum 1 (upd D 0 ⟨7,0,0⟩)=Ssum 0 D+7:=eS
     have eE':sumTo 1 (upd E 0 1)=sumTo 0 E+1:=eE;refine mu1 ?_;show phi 2 _ (.sp 0 5)+1+Ssum 1 (upd D 0 ⟨7,0,0⟩)+sumTo 1 (upd E 0 1)<phi 2 _ (.sp 1 2)+0+Ssum 0 D+sumTo 0 E;simp only[phi];omega
    .rw[hS0,hL0]
     exact .skd (r:=0) (by omega) Qr (Ai.refl w)
    .rw[est (.sp 0 5) rfl]
     exact .opn trivial aM (by simp)
  .obtain⟨a',w',es,hgo,⟨rfl,rfl⟩,G2⟩:=Bm w (Ai.refl w)
   exact idleC hP ha AB Du AP (by simp) hgo (.sgo hr G2) (by omega)
 |kd h hw=>
  rcases h.at_ hw with⟨_,a',hgo,m₂,hk⟩|⟨_,a',w',es,hgo,hG,h',hf⟩
  .exact bookC hP ha AB hgo (.refl Wg w) Du (Gj rfl bk_dis) (.anch (X:=h.fuel) hk) (AP.reopen trivial trivial rfl (by simp)) (by simp) (.inl (by simp only[phi];omega))
  .exact aae hP ha AB Du AP (by simp) hgo hG (.kd h' (Ai.refl _)) hf
 |anch h=>
  rcases Ya h with By|⟨m',rfl,Bm⟩
  .obtain⟨m₂,hk⟩:=hAn _ a w (By w (Ai.refl w))
   exact w1Step hP ha AB Du (AP.reopen trivial trivial rfl (by simp)) hk (.inl (by simp only[phi];omega))
  .obtain⟨a',w',es,hgo,⟨rfl,rfl⟩,G2⟩:=Bm w (Ai.refl w)
   exact idleC hP ha AB Du AP (by simp) hgo (.anch G2) (by omega)
 |w1 h=>exact w1Step hP ha AB Du AP h (.inr ⟨rfl,rfl,rfl⟩)
 |w2 h=>
  rename_i vs;rcases Ya h with By|⟨m',rfl,Bm⟩
  .obtain⟨_,Eb⟩:=By w (Ai.refl w)
   obtain⟨ho,rfl,rfl,uw⟩:=AP.open_inv trivial;obtain⟨hle,h1⟩:=uw vs rfl;obtain⟨ans,ah2⟩:=Eb (Vc 2 D) (by omega) (by simpa[pend]using Du);by_cases e:Vc 2 D=vs
   .obtain⟨a',hgo,m₂,hk⟩:=ans e
    exact bookC hP ha AB hgo (Zad w (stA Wg) _) (Du.setSt _) (Gj (A8 _ _) bk_rw) (.sw (X:=X0) hk) (.reg trivial ho (by omega)) (by simp) (.inl (by simp only[phi];omega))
   .obtain⟨a',hgo,m₂,hk⟩:=ah2 e
    exact bookC hP ha AB hgo (.refl Wg w) Du (Gj rfl bk_rd) (.anch (X:=X0) hk) (AP.reopen trivial trivial rfl (by simp)) (by simp) (.inl (by simp only[phi];omega))
  .obtain⟨a',w',es,hgo,⟨rfl,rfl⟩,G2⟩:=Bm w (Ai.refl w)
   exact idleC hP ha AB Du AP (by simp) hgo (.w2 G2) (by omega)
 |sw h=>
  rcases Ya h with By|⟨m',rfl,Bm⟩
  .obtain⟨_,a',hgo,m₂,hk⟩:=By w (Ai.refl w)
   exact bookC hP ha AB hgo (.refl Wg w) Du (IB (p:=0) (K:=K) (by exact uB) (by simp) (.inr ⟨rfl,smA Wg,rfl,true,rfl⟩)) (.w3 (X:=X0) hk) AP (by simp) (.inl (by omega))
  .obtain⟨a',w',es,hgo,⟨rfl,rfl⟩,G2⟩:=Bm w (Ai.refl w)
   exact idleC hP ha AB Du AP (by simp) hgo (.sw G2) (by omega)
 |w3 h=>
  rcases Ya h with By|⟨m',rfl,Bm⟩
  .obtain⟨_,anh,mB,ah3⟩:=By w (Ai.refl w)
   cases AP with
   |opn h1 _ _=>exact h1.elim
   |reg h1 h2 h3=>exact bookC hP ha AB (mB ⟨_,Du⟩) (.refl Wg w) Du (Gj rfl (by simp)) (.blk (X:=X0) By) (.reg trivial h2 h3) (by simp) (.inr ⟨rfl,.inr ⟨rfl,by omega⟩⟩)
   |last L h1 h2 h3 h4=>exact bookC hP ha AB (mB ⟨_,Du⟩) (.refl Wg w) Du (Gj rfl (by simp)) (.blk (X:=X0) By) (.last L trivial h2 h3 h4) (by simp) (.inr ⟨rfl,.inr ⟨rfl,by omega⟩⟩)
   |sema h2=>
    obtain⟨a',hgo,m₂,hk⟩:=ah3 Du;exact bookC hP ha AB hgo (Zad w (smA Wg) _) (Du.setSm 0) (Gj (A8 _ _) bk_sem) (.w4 (X:=X0) hk) (.fin trivial h2) (by simp) (.inl (by simp only[phi];omega))
   |fin h1 _=>exact h1.elim
  .obtain⟨a',w',es,hgo,⟨rfl,rfl⟩,G2⟩:=Bm w (Ai.refl w)
   exact idleC hP ha AB Du AP (by simp) hgo (.w3 G2) (by omega)
 |blk h=>simp at BD
 |w4 h=>
  rcases Ya h with By|⟨m',rfl,Bm⟩
  .obtain⟨_,hx⟩:=By w (Ai.refl w)
   obtain⟨hq,rfl,rfl⟩:=AP.fin_inv trivial;obtain⟨a',hgo,m₂,hk⟩:=hx Du;exact bookC hP ha AB hgo (.refl Wg w) Du (Gj rfl bk_rd) (.ke (X:=X0) hk) (.fin trivial hq) (by simp) (.inl (by simp only[phi];omega))
  .obtain⟨a',w',es,hgo,⟨rfl,rfl⟩,G2⟩:=Bm w (Ai.refl w)
   exact idleC hP ha AB Du AP (by simp) hgo (.w4 G2) (by omega)
 |ke h=>
  rcases Ya h with By|⟨m',rfl,Bm⟩
  .obtain⟨_,a',hgo,m₂,hk⟩:=By w (Ai.refl w)
   obtain⟨hq,rfl,rfl⟩:=AP.fin_inv trivial;exact bookC hP ha AB hgo (.refl Wg w) Du (Gj rfl bk_en) (.acq (X:=X0) hk) (.fin trivial hq) (by simp) (.inl (by simp only[phi];omega))
  .obtain⟨a',w',es,hgo,⟨rfl,rfl⟩,G2⟩:=Bm w (Ai.refl w)
   exact idleC hP ha AB Du AP (by simp) hgo (.ke G2) (by omega)
 |acq h=>
  rcases Ya h with By|⟨m',rfl,Bm⟩
  .obtain⟨_,a',hgo,m₂,hk⟩:=By w (Ai.refl w)
   obtain⟨hq,rfl,rfl⟩:=AP.fin_inv trivial;refine bookC hP ha AB hgo (.refl Wg w) Du (IB (p:=0) (K:=K) (by exact uB) (by simp) (.inl rfl)) (.ret (X:=X0) hk) (.fin trivial hq) (fun _=>?_) (.inl (by simp only[phi];omega));have e1:ZO 0 a.frame.fn a.frame.place #[mk (.acquire (stA Wg))]= #[{g:=0,fn:=a.frame.fn,pos:=a.frame.place,act:=.mark (.acquire (stA Wg))}]:=by rw[Zcc];simp[Zdq]
   have hy:(t++ #[({g:=0,fn:=a.frame.fn,pos:=a.frame.place,act:=.mark (.acquire (stA Wg))}:MemOp)])[t.size]?=some {g:=0,fn:=a.frame.fn,pos:=a.frame.place,act:=.mark (.acquire (stA Wg))}:=by simp
   have E7:=AB.pos;refine⟨t.size,by rw[e1,act?_of hy],by rw[e1];simp[Zan],by rw[e1];exact⟨0,by simp[Zan],by rw[deaf_old (Zj _)];exact AB.deaf0⟩,fun i hi=>?_⟩;obtain⟨r,hr⟩:=AB.rel i hi (by rw[hq i hi];omega);refine⟨r,Jp.other hr fun op hop=>?_,lt_of_act? hr.1.act⟩;obtain⟨e,_,rfl⟩:=ZW hop;show 0≠K+i;omega
  .obtain⟨a',w',es,hgo,⟨rfl,rfl⟩,G2⟩:=Bm w (Ai.refl w)
   exact idleC hP ha AB Du AP (by simp) hgo (.acq G2) (by omega)
 |ret h=>
  rcases Ya h with By|⟨m',rfl,Bm⟩
  .exact absurd ⟨rfl,By⟩ hnf
  .obtain⟨a',w',es,hgo,⟨rfl,rfl⟩,G2⟩:=Bm w (Ai.refl w)
   exact idleC hP ha AB Du AP Js hgo (.ret G2) (by omega)
end
end Go.Pair
namespace Go.Pair
open Go Go.Conc Go.FO
open Go.ConcN (PermW RelBy WgLive CTag phi pend isOpen isW3 isFin OpenSt AllQuit WD Vc Ssum Fsum cnt sumTo sumTo_upd upd upd_same upd_ne exists_counted)
open Go.ConcR (KK WgAt stA smA rd wr mk DC0 Bk g_of_ofEvents)
section
variable {P:Zp}{ty:Zr}{Wg Ch:Nat}{Pay:Nat->Gu}{K T₀:Nat}{Shun:Loc->Prop}{w₀:Zc}{S₀ L₀:Nat->Prop}{Anch AU:Ci}
 {j:Nat} {gs:Array Zi} {w:Zc} {t:Y8} {D:Nat->WD} {E:Nat->Nat} {X:Nat->Fuel P ty Wg} {H:JZ} {q:Nat->Nat} {d0:Nat} {vals:Nat->Ze} {tag:CTag} {sub f0:Nat} {X0:Fuel P ty Wg} {a:Zi} {sl:Option (Nat×Nat)} {st sm:Int}
variable {S L S' L':Nat->Prop}
variable {p b i k s' e' m' dd' d Ld f' m n:Nat}
variable {g g' a':Zi}
def WSit.running_of {Pq:Gu}{s e:Nat}{X:Fuel P ty Wg}(h:WSit P ty Wg Ch Pq S L s e m d X g w)(hs:s≠1):g.status=.running:=
 h.status.resolve_right fun x=>hs x.2
def someone_runs (Ta:∀S g w,AU S g w->g.status=.running)(hA:∀S g w,Anch S g w->g.status=.running)(ha:gs[0]?=some a)(hcs:CSit P ty Wg Ch Pay Anch AU (H.S 0) (H.L 0) tag sub j f0 X0 d0 a w)(AB:Com P ty Wg Ch Pay K T₀ Shun w₀ S₀ L₀ j gs w t D E X H q d0 vals)(AP:Yl j D tag st sm):
  ∃(i:Nat) (g:Zi),gs[i]?=some g/\g.status=.running:=by
 rcases hcs.status Ta hA with⟨hs,_⟩|⟨_,rfl⟩
 .exact⟨0,a,ha,hs⟩
 .cases AP with
  |opn h1 _ _=>exact h1.elim
  |reg _ _ h3=>
   obtain⟨i,hi,h5⟩:=exists_counted h3;obtain⟨g,hg,hs⟩:=AB.wk i hi;exact⟨K+i,g,hg,hs.running_of (by omega)⟩
  |last L _ h2 h3 _=>
   obtain⟨g,hg,hs⟩:=AB.wk L h2;exact⟨K+L,g,hg,hs.running_of (by omega)⟩
  |fin h1 _=>exact h1.elim
def all_awake (Ta:∀S g w,AU S g w->g.status=.running)(hA:∀S g w,Anch S g w->g.status=.running)(ha:gs[0]?=some a)(hcs:CSit P ty Wg Ch Pay Anch AU (H.S 0) (H.L 0) tag sub j f0 X0 d0 a w)(AB:Com P ty Wg Ch Pay K T₀ Shun w₀ S₀ L₀ j gs w t D E X H q d0 vals):∀g∈gs,awake g:=by
 intro g hg;obtain⟨i,hi⟩:=Array.mem_iff_getElem?.1 hg;have AA:=(Za.1 hi).1;have Ek:=AB.size;rcases z7 i with rfl|hp
 .rw[ha]at hi;cases hi
  intro tm;rcases hcs.status Ta hA with⟨hs,_⟩|⟨hs,_⟩<;>rw[hs]<;>simp
 .rcases Zaw i K with hK|hK
  .exact awake_of ((AB.old i g hp hK hi).status.elim .inl fun x=>.inr (.inr x))
  .obtain⟨g',G2,hs⟩:=AB.wk (i - K) (by omega)
   rw[show K+(i - K)=i by omega,hi]at G2;cases G2;exact awake_of (hs.status.elim .inl fun x=>.inr (.inr x.1))
def mC (hP:Jq ty Wg Pay)(Ta:∀S g w,AU S g w->g.status=.running)(hA:∀S g w,Anch S g w->g.status=.running)
 (hAn:∀S g w,AU S g w->∃m,Goes P true (Ai ty Wg S) DC0 (AtW1 P ty Wg Anch AU S) m g w) (μ:Mu P ty Wg) (m:Machine) (t:Y8) (h:Inv P ty Wg Ch Pay K T₀ Shun w₀ S₀ L₀ Anch AU μ m t):
  Fin P ty Wg Ch Pay K T₀ Shun w₀ S₀ L₀ Anch m t\/∃m' ops G_,stepT P m=(.next m',ops)/\Jr G_ μ/\Inv P ty Wg Ch Pay K T₀ Shun w₀ S₀ L₀ Anch AU G_ m' (t++ops):=by
 obtain⟨gs,w,sl,j,D,E,X,H,q,d0,vals,tag,sub,f0,X0,a,st,sm,rfl,ha,hcs,AB,Du,AP,Js,rfl⟩:=h;by_cases hf:tag=.ret/\∀w₁,Ai ty Wg (H.S 0) w w₁->Anch (H.S 0) a w₁
 .obtain⟨rfl,B5⟩:=hf
  obtain⟨hq,rfl,rfl⟩:=AP.fin_inv trivial;have hj:j=2/\d0=0:=by cases hcs;exact⟨rfl,rfl⟩
  obtain⟨rfl,rfl⟩:=hj;exact .inl ⟨gs,w,sl,D,E,X,H,q,vals,a,rfl,ha,B5 w (Ai.refl w),AB,Du,hq,Js rfl⟩
 refine .inr ?_;obtain⟨i,g,d,Jm,hg,BD,Bm⟩:=crowd_pick (P:=P) (w:=w) (sl:=sl) (all_awake Ta hA ha hcs AB) (someone_runs Ta hA ha hcs AB AP);rw[Bm];have K6:=hcs.rely (Ai.at w d);have Cd:=AB.at hP d;have Lg:WgAt ty Wg (w.at d) st sm:=Du;have E7:=AB.pos;rcases z7 i with rfl|hip
 .rw[ha]at hg;cases hg
  exact stepCaller (sl:=Jm) hP hAn ha K6 Cd Lg AP Js BD fun⟨h1,h2⟩=>hf ⟨h1,fun w₁ hr=>h2 w₁ ⟨⟨hr.base.same,hr.base.size,hr.base.os⟩,hr.live⟩⟩
 .rcases Zaw i K with hK|hK
  ·
   have hq:=AB.old i g hip hK hg;have AA:i<gs.size:=(Za.1 hg).1;have hi0:(i==0)=false:=by simp;omega
   cases qw:q i with
   |zero=>rw[qw]at hq;rw[hq.1]at BD;cases BD
   |succ k=>
    rw[qw]at hq;rcases hq with⟨hfi,_⟩|⟨_,g',es,hm,qy,Q7⟩
    .rw[hfi]at BD;cases BD
    have FQ:=Zb6 (P:=P) (sl:=Jm) (i:=i) hg (by rw[hi0];exact qy (w.at d));have hc:=Cd.agV (k:=i) (n':=k) hip hK (gs':=(gs.map (woken P g g' (w.at d))).setIfInBounds i g') (g':=g') (by simp) (Zbv _ _ _ AA) (fun k' h1 h2=>Cd.Gv g g' (w.at d) i h1 h2) (fn:=g.frame.fn) (pos:=g.frame.place) hm Q7;obtain⟨Cs,f',ach,fS,_⟩:=K6.wokenBy Ta hA (Ai.refl _) g g';refine⟨_,_,_,FQ,?_,_,w.at d,Jm,j,D,E,X,H,upd q i k,d0,vals,Cs,sub,f',X0,_,st,sm,rfl,by rw[Zcg _ _ _ _ (by omega),ha];rfl,ach,hc,Lg,AP.retag fS,fun e=>?_,rfl⟩
    .unfold KG
     rw[ConcN.phi_retag 2 _ fS];have:=sumTo_upd q k id hK;simp only[qw,id]at this;have e1:(sumTo K fun a=>upd q i k a)=sumTo K (upd q i k):=rfl;have e2:(sumTo K fun a=>q a)=sumTo K q:=rfl;rw[e1,e2]at this;exact mu4 (by omega)
    .rcases fS with rfl|⟨_,rfl⟩
     .exact(Js e).app fun i' r Da hr=>Jp.other hr fun op hop=>by
       obtain⟨e,_,rfl⟩:=ZW hop;show i≠K+i';omega
     .cases e
  .have AA:=(Za.1 hg).1
   have Ek:=AB.size;have e:i=K+(i - K):=by omega
   rw[e]at hg⊢;exact stepWorker hP Ta hA ha K6 Cd Lg AP Js (by omega) hg BD
def mD (hP:Jq ty Wg Pay)(Ta:∀S g w,AU S g w->g.status=.running)(hA:∀S g w,Anch S g w->g.status=.running)
 (hAn:∀S g w,AU S g w->∃m,Goes P true (Ai ty Wg S) DC0 (AtW1 P ty Wg Anch AU S) m g w) (μ:Mu P ty Wg):∀(m:Machine) (t:Y8),Inv P ty Wg Ch Pay K T₀ Shun w₀ S₀ L₀ Anch AU μ m t->
  ∃N m' t',ZaI P N m t=(.next m',t')/\Fin P ty Wg Ch Pay K T₀ Shun w₀ S₀ L₀ Anch m' t':=by
 induction μ using(ano P ty Wg).induction with
 |_ μ ih=>
  intro m t hI;rcases mC hP Ta hA hAn μ m t hI with h|⟨m',ops,G_,hs,hr,hI'⟩
  .exact⟨0,m,t,rfl,h⟩
  .obtain⟨n,m₂,Iq,h1,h2⟩:=ih G_ hr m' (t++ops) hI'
   exact⟨n+1,m₂,Iq,by rw[runNT_succ_next hs];exact h1,h2⟩
def bW (AB:Com P ty Wg Ch Pay K T₀ Shun w₀ S₀ L₀ 2 gs w t D E X H q 0 vals)(Js:AcqAll K Wg T₀ 2 t):Past (fun l=>Shun l\/M3 Wg l) w.heap.size t:=by
 obtain⟨qq,h1,h2,h3,h4⟩:=Js;obtain⟨z,hz,hzg⟩:=zf.1 h2;have edge:∀i,i<2->∀k,t.g? k=some (K+i)->(∃r,Jp Wg T₀ t (K+i) r/\r<qq/\k<=r)->ZbC t k qq:=by
  intro i _ k hk ⟨r,hr,hrq,hkr⟩;have e:ZbC t r qq:=.single (.inr ⟨.marked hrq (.inr hr.1.act) h1 (fun k hk _=>AB.norel k (Nat.le_of_lt (Nat.lt_of_le_of_lt hr.2.1 hk))),hr.1.heard,h3⟩);rcases Zaw k r with AA|hge
  .exact .trans (.single (.inl ⟨AA,K+i,hk,hr.1.g⟩)) e
  .obtain rfl:k=r:=by omega
   exact e
 refine⟨AB.ti.nr,fun i x hx hm=>?_,fun i g hg Bn hc=>?_,AB.deaf0,AB.ti.seen⟩
 .rcases AB.ti.kn i x hx hm with k|⟨k,k'⟩|⟨p,qf,WS,hg⟩
  .exact .inl k
  .exact .inr ⟨.inl k,k'⟩
  .obtain⟨i',rfl⟩:∃i',p=i'+1:=⟨p - 1,by omega⟩
   obtain⟨r,hr,hrq⟩:=h4 i' (by omega);rcases hr.2.2 i x hx hm hg with hk|⟨hk,JY⟩
   .exact .inl ⟨qq,z,hz,hzg,.inr (edge i' (by omega) i hg ⟨r,hr,hrq,hk⟩)⟩
   .exact .inr ⟨.inr hk,JY⟩
 .rcases AB.ti.ov i g hg Bn hc with h|⟨p,qf,WS,rfl⟩
  .exact h
  .obtain⟨i',rfl⟩:∃i',p=i'+1:=⟨p - 1,by omega⟩
   obtain⟨r,hr,hrq⟩:=h4 i' (by omega);have hle:i<=r:=Zdg fun AA=>hr.1.after i AA hg hc;exact⟨qq,h2,edge i' (by omega) i hg ⟨r,hr,hrq,hle⟩⟩
def Te (AB:Com P ty Wg Ch Pay K T₀ Shun w₀ S₀ L₀ 2 gs w t D E X H q 0 vals)(hq:AllQuit 2 D):∃q',Leavers P t gs q':=by
 refine⟨fun i=>if i<K then q i else(D (i - K)).fuel,fun i g hi hg=>?_,fun i hi=>AB.above i (by rw[<-AB.size];exact hi)⟩;have AA:=(Za.1 hg).1;have Ek:=AB.size;by_cases hK:i<K
 .rw[if_pos hK]
  exact AB.old i g hi hK hg
 .rw[if_neg hK]
  obtain⟨g',G2,hs⟩:=AB.wk (i - K) (by omega);have hd:=AB.deafW (i - K) (by omega);rw[show K+(i - K)=i by omega]at G2 hd;rw[hg]at G2;cases G2;rw[hd];have h1:=hq (i - K) (by omega);generalize (D (i - K)).fuel=f at*;generalize (D (i - K)).deaf=dd at*;generalize E (i - K)=e at*;generalize X (i - K)=x at*;rw[h1]at hs;cases hs with
  |quit h=>exact h
end
section
variable {P:Zp}{ty:Zr}{Wg Ch:Nat}{Pay:Nat->Gu}{Shun:Loc->Prop}{Anch AU:Ci}
structure Joined (P:Zp)(Ch Wg:Nat)(Pay:Nat->Gu)(Shun:Loc->Prop)(Anch:Ci)(S L:Nat->Prop)(w:Zc)(gs':Array Zi)(w':Zc)(t':Y8):Prop where
 main:∃a' S',gs'[0]?=some a'/\Anch S' a' w'/\∀b,S' b->(S b\/w.heap.size<=b)/\b<w'.heap.size/\b≠Wg/\b≠Ch
 old:∃q',Leavers P t' gs' q'
 past:Past (fun l=>Shun l\/M3 Wg l) w'.heap.size t'
 chan:∃(vals:Nat->Ze) (ord:List Nat) (tm:Bool),(ord=[0,1]\/ord=[1,0])/\w'.heap[Ch]?=some (.chan 2 (ord.map vals).toArray false 2 0 tm)/\
  ∀i,i<2->∃T,Pay i T (vals i) w'/\∀b,T b->(S b\/w.heap.size<=b)/\b<w'.heap.size/\b≠Wg/\b≠Ch
 still:∀b,b<w.heap.size->b≠Wg->b≠Ch->(¬S b\/L b)->w'.heap[b]?=w.heap[b]?
 size:w.heap.size<=w'.heap.size
 os:w'.os=w.os
 tape:w'.tape=w.tape
 output:w'.output=w.output
variable {gs' gs:Array Zi}
variable {w w' w₁ w₂ w₀:Zc}
variable {u t:Y8}
variable {S L T₀ S' L':Nat->Prop}
def fU (hP:Jq ty Wg Pay)(Ta:∀S g w,AU S g w->g.status=.running)(hA:∀S g w,Anch S g w->g.status=.running)
 (hAn:∀S g w,AU S g w->∃m,Goes P true (Ai ty Wg S) DC0 (AtW1 P ty Wg Anch AU S) m g w)
 {a:Zi} {sl:Option (Nat×Nat)} {q:Nat->Nat} {tm:Bool} (h0:gs[0]?=some a) (hL:Leavers P t gs q) (aaf:Past Shun w.heap.size t) (hH:Hf Shun S w.heap.size) (hSh:He Shun w.heap.size)
 (hWS:¬S Wg) (hCS:¬S Ch) (Bn:Ch≠Wg) (Du:WgAt ty Wg w 0 0) (qN:w.heap[Ch]?=some (.chan 2 #[] false 0 0 tm)) (ant:∀l,M3 Wg l->¬Shun l) (mi:∀b,L b->b<w.heap.size)
 (vW:Bf P true ty Wg L (AtKdS P ty Wg Ch (Pay 0) (Nxt P ty Wg Ch Pay 2 AU 1)) S a w):
  ∃N gs' w' Jm t',ZaI P N (Ys gs w sl) t=(.next (Ys gs' w' Jm),t')/\Joined P Ch Wg Pay Shun Anch S L w gs' w' t':=by
 have AA:0<gs.size:=(Za.1 h0).1;have hw:Wg<w.heap.size:=(Za.1 Du).1;have hc:Ch<w.heap.size:=(Za.1 qN).1;have z:∀p:Nat,p<=0->p=0:=fun p h=>by omega
 let H:JZ:=⟨fun p=>if p=0 then S else fun _=>False,fun p=>if p=0 then L else fun _=>False⟩
 have hHS:H.S 0=S:=rfl;have hHL:H.L 0=L:=rfl;have AB:Com P ty Wg Ch Pay gs.size t.size Shun w S L 0 gs w t (fun _=>⟨0,0,0⟩) (fun _=>0) (fun _=>Fuel.none P ty Wg) H q 0 (fun _=>Zf):=by
  refine⟨rfl,AA,fun i hi=>by omega,fun i g h1 h2 h3=>hL.old i g h1 h3,TI.vU aaf (fun b hb=>?_) ant,⟨fun p p' hp Xd Bn=>absurd ((z p hp).trans (z p' Xd).symm) Bn,fun p hp=>by rw[z p hp];exact hWS,fun p hp b hb=>?_⟩,fun k hk hx=>absurd (lt_of_act? hx) (by omega),Zj _,aaf.hears,fun i hi=>by omega,hL.above,fun i hi=>by omega,hw,hc,Bn,
   fun p hp=>by rw[z p hp];exact hCS,⟨[],tm,List.nodup_nil,fun i=>by simp,qN⟩,fun i hi=>by omega,fun b _ _ _ _=>rfl,Zj _,rfl,rfl,rfl,fun p hp b hb=>?_,fun p hp b hl hb _=>?_,mi,fun i hi=>by omega⟩
  .refine⟨(hH b hb).1,fun l hl hs=>?_⟩
   obtain⟨x,rfl,_⟩:=hSh l hs;simp only[blk,ZN]at hl;exact(hH b hb).2 x hl hs
  .rw[z p hp]at hb
   exact(hH b hb).1
  .rw[z p hp]at hb
   exact .inl hb
  .rw[z p hp]
   exact hl
 have AP:Yl 0 (fun _=>(⟨0,0,0⟩:WD)) (.sp 1 5) 0 0:=by
  have:=ConcN.Mode.opn (j:=0) (D:=fun _=>(⟨0,0,0⟩:WD)) (tag:=.sp 1 5) trivial (fun i hi=>by omega) (fun vs e=>by cases e);simpa[Vc,sumTo,pend]using this
 obtain⟨N,m',t',hr,gs',w',Jm,D,E,X,H',q',vals,a',rfl,ha',B5,Cd,_,hq,Js⟩:=mD (K:=gs.size) (T₀:=t.size) (Shun:=Shun) (w₀:=w) (S₀:=S) (L₀:=L) hP Ta hA hAn _ (Ys gs w sl) t
  ⟨gs,w,sl,0,_,_,_,H,q,0,_,.sp 1 5,1,0,vW.fuel,a,0,0,rfl,h0,.skd (r:=1) (by omega) vW (Ai.refl w),AB,Du,AP,by simp,rfl⟩
 have aag:∀p,p<=2->∀b,H'.S p b->(S b\/w.heap.size<=b)/\b<w'.heap.size/\b≠Wg/\b≠Ch:=fun p hp b hb=>⟨Cd.Fp p hp b hb,Cd.Pr.low p hp b hb,fun e=>Cd.Pr.wg p hp (e▸hb),fun e=>Cd.Ps p hp (e▸hb)⟩;refine⟨N,gs',w',Jm,t',hr,⟨a',H'.S 0,ha',B5,aag 0 (by omega)⟩,Te Cd hq,bW Cd Js,?_,fun b h1 h2 h3 h4=>Cd.dn b h1 h2 h3 h4,Cd.grown,Cd.os,Cd.tape,Cd.output⟩;have he:∀i,i<2->E i=0:=fun i hi=>Cd.e01 i hi (by rw[hq i hi];omega);obtain⟨ord,tm',jE,qe,ho3⟩:=Cd.ch;have Xg:∀i,i∈ord↔i<2:=fun i=>(qe i).trans ⟨And.left,fun h=>⟨h,he i h⟩⟩;have mE:ord=[0,1]\/ord=[1,0]:=by
  match ord,jE,Xg with
  | [],_,hm=>exact absurd ((hm 0).2 (by omega)) (by simp)
  | [x],_,hm=>
   have h0:=(hm 0).2 (by omega);have h1:=(hm 1).2 (by omega);simp at h0 h1;omega
  | [x,y],hn,hm=>
   have h0:=(hm 0).2 (by omega);have h1:=(hm 1).2 (by omega);simp at h0 h1;rcases h0 with h0|h0
   .rcases h1 with h1|h1
    .omega
    .exact .inl (by rw[<-h0, <-h1])
   .rcases h1 with h1|h1
    .exact .inr (by rw[<-h0, <-h1])
    .omega
  |x::y::zz::l,hn,hm=>
   exfalso;have hx:=(hm x).1 (by simp);have hy:=(hm y).1 (by simp);have hz:=(hm zz).1 (by simp);simp at hn;omega
 have hlen:ord.length=2:=by rcases mE with rfl|rfl<;>rfl
 rw[hlen]at ho3;exact⟨vals,ord,tm',mE,ho3,fun i hi=>⟨H'.S (i+1),Cd.pay i hi (he i hi),aag (i+1) (by omega)⟩⟩
end
end Go.Pair
namespace Go.Pair
open Go Go.Conc Go.FO Go.RowKit Go.Conc.Lib Go.ConcR.Gen Go.ConcN.Gen
open Go.ConcN (WgLive)
open Go.ConcR (KK wgBlock WgAt stA smA rd wr mk DC0)
variable {ty:Zr}
variable {p b i j k s' e' m' dd' d Ld f' m Wg n:Nat}
variable {S L T₀ S' L':Nat->Prop}
variable {w w' w₁ w₂ w₀:Zc}
def Ag (h:WgLive ty Wg w)(r:Ai ty Wg S w w₁):WgLive ty Wg w₁:=r.live h
def Tf {P:Zp}:∀ {n d:Nat} {g:Zi},ZcD P n d g->ZcD P (n+1) d g
 |0,_,_,h=>.inl h
 |_+1,_,_,h=>h.imp id fun⟨hs,g',es,hm,B5,hq⟩=>⟨hs,g',es,hm,B5,Tf hq⟩
variable {P:Zp}
variable {g g' a':Zi}
def Ob (h:ZcD P n d g)(hn:n<=m):ZcD P m d g:=by
 induction hn with
 |refl=>exact h
 |step _ ih=>exact Tf ih
section
variable {L:WgLink}
def vX {P:Zp}(H:WgLib P L){Wg:Nat}{S:Nat->Prop}{b₀:ZT}{Q_:Act}{E8:Array Oper}{Q':Nat}{EY:List Nat}{Ra:List Item}{cs:List ZT}{qt:Nat}
  (hT:ZcD P qt 0 (G (b₀.at (Q_.put ((E8[Q']?).bind (·.dst)) (.tuple #[])) (.inRegion E8 EY::Ra)) cs)) (w:Zc) (hK:WgLive L.tWg Wg w):
  Goes P false (Ai L.tWg Wg S) DC0 (AtR0 P L.tWg Wg S) 40 (G ((base L.add).at ⟨#[.pointer (some ⟨Wg,0,none⟩),.int .i64 (-1),Zf,Zf,Zf,Zf,Zf,Zf,Zf,Zf,Zf,Zf,Zf,Zf,Zf,Zf,Zf,Zf,Zf,Zf,Zf,Zf,Zf,Zf,Zf,Zf,Zf,Zf,Zf,Zf,Zf,Zf,Zf,Zf,Zf,Zf,Zf,Zf,Zf,Zf,Zf,Zf,Zf,Zf,Zf,Zf,Zf,Zf,Zf,Zf,Zf,Zf,Zf,Zf,Zf,Zf,Zf,Zf,Zf,Zf,Zf,Zf,Zf,Zf,Zf,Zf,Zf,Zf,Zf,Zf,Zf,Zf,Zf,Zf,Zf,Zf,Zf,Zf,Zf,Zf,Zf,Zf,Zf,Zf,Zf,Zf,Zf,Zf,Zf,Zf,Zf,Zf,Zf,Zf,Zf,Zf,Zf,Zf,Zf,Zf,Zf,Zf,Zf,Zf,Zf,Zf,Zf,Zf,Zf,Zf,Zf,Zf,Zf,Zf,Zf,Zf,Zf],[]⟩ [.code (body_add L)]) (b₀.at Q_ (.inRegion E8 (Q'::EY)::Ra)::cs)) w:=by
 lib_facts
 simp only[body_add,addFn,Zx]
 repeat (first|u_c Zo Ag hK|u_cond true Ag hK|u_c Zh Ag hK|u_reg Ag hK|u_op Ag hK)
 u_conv H.underlying_tWgP H.room_tWg (WgLive.cell0 hK).choose_spec Ag hK
 refine Z2 (fun w₁ BV=>?_);replace hK:=Ag hK BV;clear BV;refine⟨rfl,_,ZbT .releaseMerge (by simp) rfl rfl (by k_ne) rfl H.f_relMerge (x_relMerge_n L) (x_relMerge_b L) (x_relMerge_x L) (x_relMerge_f L) (by simp[ZbS,stA]),10,?_⟩
 walk_nrm
 repeat (first|u_c Zo Ag hK|u_c Zh Ag hK|u_reg Ag hK)
 refine Z2 (fun w₁ BV=>?_);replace hK:=Ag hK BV;clear BV;refine⟨rfl,_,Zcb .disable (by simp) rfl rfl (by k_ne) rfl H.f_disable (x_disable_n L) (x_disable_b L) (x_disable_x L) (x_disable_f L),60,?_⟩
 walk_nrm
 repeat (first|u_c Zo Ag hK|u_c Zh Ag hK|u_c Z3 Ag hK|u_cond false Ag hK|u_reg Ag hK|u_op Ag hK|u_defer Ag hK|u_bub Ag hK|u_call H.f_uAdd (nm_uAdd L) uAddFn Ag hK)
 refine Z2 (fun w₁ BV=>?_);clear BV hK;refine⟨rfl,fun v wt hwt hv hw=>?_⟩;have e0:IntKind.u64.wrap (KK+18446744069414584320)=0:=by decide
 have e1:IntKind.u64.wrap (KK+1+18446744069414584320)=1:=by decide
 rcases z7 v with rfl|hvp<;>(obtain rfl|rfl:wt=0\/wt=1:=by omega)
 .replace hw:WgAt L.tWg Wg w₁ KK 0:=by simpa using hw
  have z:((0:Nat):Int)*KK+((0:Nat):Int)=0:=by simp
  rw[z];refine⟨_,(Zat rfl rfl (by k_ne) rfl H.f_addU64 (x_addU64_n L) (x_addU64_b L) (x_addU64_x L) .u64 (x_addU64_f L) rfl rfl hw.cellSt (hw.thaw 0)).trans (by rw[e0];rfl),fun hl=>absurd hl.2 (by decide),fun _=>⟨qt+120,?_⟩⟩;clear hw
  walk_nrm
  q_val (.int .u64 0)
  q_c Zh
  q_c Yf
  q_leave1 H.f_uAdd
  q_val (.int .u64 0)
  q_c Zh
  (repeat q_c Zo)
  q_reg
  q_val (.int .u64 0)
  q_val (.int .u64 0)
  q_val (.bool false)
  q_val (.bool false)
  q_skip
  q_skip
  q_val (.bool false)
  q_c Zh
  q_cond false
  q_c Z3
  (repeat q_c Zo)
  q_reg
  q_val (.int .u64 0)
  q_val (.int .u64 0)
  q_val (.int .i32 0)
  q_val (.int .i32 0)
  q_c Zh
  (repeat q_c Zo)
  q_reg
  q_val (.int .u64 0)
  q_val (.int .u64 0)
  q_val (.int .u32 0)
  q_val (.int .u32 0)
  q_c Zh
  (repeat q_c Zo)
  q_reg
  q_val (.bool true)
  q_val (.int .i64 (-1))
  q_val (.bool false)
  q_val (.bool false)
  q_val (.bool false)
  q_skip
  q_skip
  q_skip
  q_skip
  q_val (.bool false)
  q_c Zh
  q_cond false
  q_c Z3
  (repeat q_c Zo)
  q_reg
  q_val (.int .i32 0)
  q_val (.bool false)
  q_c Zh
  q_cond false
  q_c Z3
  (repeat q_c Zo)
  q_reg
  q_val (.int .u32 0)
  q_val (.bool false)
  q_val (.bool false)
  q_skip
  q_skip
  q_val (.bool false)
  q_val (.bool false)
  q_skip
  q_skip
  q_skip
  q_skip
  q_val (.bool false)
  q_c Zh
  q_cond false
  q_c Z3
  (repeat q_c Zo)
  q_reg
  q_val (.int .i32 0)
  q_val (.bool false)
  q_val (.bool false)
  q_val (.int .u32 0)
  q_val (.bool true)
  q_val (.bool true)
  q_c Zh
  q_cond true
  q_c Yf
  q_enable
  q_leave0 H.f_add
  exact Ob hT (by omega)
 .replace hw:WgAt L.tWg Wg w₁ (KK+1) 0:=by simpa using hw
  have z:((0:Nat):Int)*KK+((1:Nat):Int)=1:=by simp
  rw[z];refine⟨_,(Zat rfl rfl (by k_ne) rfl H.f_addU64 (x_addU64_n L) (x_addU64_b L) (x_addU64_x L) .u64 (x_addU64_f L) rfl rfl hw.cellSt (hw.thaw 0)).trans (by rw[e1];rfl),fun _=>⟨150,?_⟩,fun hl=>absurd ⟨rfl,rfl⟩ hl⟩;have hK:WgLive L.tWg Wg (w₁.setCell (stA Wg) (.int .u64 1)):=⟨_,_,hw.setSt _⟩;clear hw
  walk_nrm
  u_op Ag hK
  u_c Zh Ag hK
  u_c Yf Ag hK
  u_leave1 H.f_uAdd Ag hK
  u_op Ag hK
  u_c Zh Ag hK
  (repeat u_c Zo Ag hK)
  u_reg Ag hK
  iterate 4 (u_op Ag hK)
  u_skip Ag hK
  u_skip Ag hK
  u_op Ag hK
  u_c Zh Ag hK
  u_cond false Ag hK
  u_c Z3 Ag hK
  (repeat u_c Zo Ag hK)
  u_reg Ag hK
  iterate 4 (u_op Ag hK)
  u_c Zh Ag hK
  (repeat u_c Zo Ag hK)
  u_reg Ag hK
  iterate 4 (u_op Ag hK)
  u_c Zh Ag hK
  (repeat u_c Zo Ag hK)
  u_reg Ag hK
  iterate 5 (u_op Ag hK)
  u_skip Ag hK
  u_skip Ag hK
  u_skip Ag hK
  u_skip Ag hK
  u_op Ag hK
  u_c Zh Ag hK
  u_cond false Ag hK
  u_c Z3 Ag hK
  (repeat u_c Zo Ag hK)
  u_reg Ag hK
  u_op Ag hK
  u_op Ag hK
  u_c Zh Ag hK
  u_cond false Ag hK
  u_c Z3 Ag hK
  (repeat u_c Zo Ag hK)
  u_reg Ag hK
  iterate 7 (u_op Ag hK)
  u_skip Ag hK
  u_skip Ag hK
  u_skip Ag hK
  u_skip Ag hK
  u_op Ag hK
  u_c Zh Ag hK
  u_cond false Ag hK
  u_c Z3 Ag hK
  (repeat u_c Zo Ag hK)
  u_reg Ag hK
  iterate 6 (u_op Ag hK)
  u_c Zh Ag hK
  u_cond false Ag hK
  u_c Z3 Ag hK
  (repeat (first|u_c Zo Ag hK|u_c Zh Ag hK|u_reg Ag hK|u_op Ag hK))
  u_call H.f_uLoad (nm_uLoad L) uLoadFn Ag hK
  (repeat (first|u_c Zo Ag hK|u_c Zh Ag hK|u_reg Ag hK|u_op Ag hK))
  refine Z2 (fun w₂ Cw=>?_);replace hK:=Ag hK Cw;clear Cw;refine⟨rfl,fun hw=>⟨_,Zbw (v:=1) rfl rfl (by k_ne) rfl H.f_loadU64 (x_loadU64_n L) (x_loadU64_b L) (x_loadU64_x L) .u64 (x_loadU64_f L) rfl hw.cellSt,60,?_⟩⟩;clear hw
  walk_nrm
  u_op Ag hK
  u_c Zh Ag hK
  u_c Yf Ag hK
  u_leave1 H.f_uLoad Ag hK
  u_op Ag hK
  u_op Ag hK
  u_c Zh Ag hK
  u_cond false Ag hK
  u_c Z3 Ag hK
  (repeat (first|u_c Zo Ag hK|u_c Zh Ag hK|u_reg Ag hK|u_op Ag hK))
  u_call H.f_uStore (nm_uStore L) uStoreFn Ag hK
  u_reg Ag hK
  iterate 4 (u_op Ag hK)
  refine Z2 (fun D9 FJ=>?_);clear FJ hK;refine⟨rfl,fun hw=>⟨_,stepG_store_atomic rfl rfl (by k_ne) rfl H.f_storeU64 (x_storeU64_n L) (x_storeU64_b L) (x_storeU64_x L) (x_storeU64_f L) rfl rfl hw.cellSt (hw.thaw 0),60,?_⟩⟩;have hK:WgLive L.tWg Wg (D9.setCell (stA Wg) (.int .u64 0)):=⟨_,_,hw.setSt 0⟩;clear hw
  walk_nrm
  u_c Zh Ag hK
  u_c stepG_end Ag hK
  u_leave0 H.f_uStore Ag hK
  u_c Zh Ag hK
  (repeat u_c Zo Ag hK)
  u_reg Ag hK
  u_op Ag hK
  u_c Zh Ag hK
  u_cond false Ag hK
  u_c Z3 Ag hK
  u_c Zbx Ag hK
  u_c stepG_loop Ag hK
  u_c Zo Ag hK
  u_c Zo Ag hK
  u_reg Ag hK
  u_op Ag hK
  u_op Ag hK
  u_c Zh Ag hK
  u_cond true Ag hK
  u_c Z3 Ag hK
  u_c Zo Ag hK
  u_c Zbx Ag hK
  u_reg Ag hK
  iterate 3 (u_op Ag hK)
  refine Z2 (fun Lh ft=>?_);clear ft hK;refine⟨rfl,mayWake_entry rfl rfl H.f_semrelease (x_semrelease_b L),fun hw=>⟨_,(stepG_semrelease (n:=0) rfl rfl (by k_ne) rfl H.f_semrelease (x_semrelease_n L) (x_semrelease_b L) (x_semrelease_x L) (x_semrelease_f L) (by simp[ZbS,smA]) hw.cellSm (hw.thaw 1)).trans (by rfl),qt+60,?_⟩⟩;clear hw
  walk_nrm
  q_c Zh
  q_c stepG_inBlock
  q_reg
  q_val (.int .u32 1)
  q_val (.int .u32 0)
  q_val (.int .u32 0)
  q_c Zh
  q_c stepG_inLoop
  q_c Zo
  q_c Zo
  q_reg
  q_val (.int .u32 0)
  q_val (.bool false)
  q_c Zh
  q_cond false
  q_exit
  q_c stepG_end
  q_enable
  q_leave0 H.f_add
  exact Ob hT (by omega)
 .obtain⟨V,hV⟩:∃V:Int,V=(v:Int):=⟨_,rfl⟩
  obtain⟨S',hS⟩:∃S':Int,S'=V*KK+0:=⟨_,rfl⟩;have eS:IntKind.u64.wrap (((v:Int)+1)*KK+((0:Nat):Int)+18446744069414584320)=S':=by rw[Zbk,hS,hV];simp only[KK];omega
  have eT:(v:Int)*KK+((0:Nat):Int)=S':=by rw[hS,hV];simp
  rw[eT];have a1:S' / 4294967296=V:=by rw[hS,hV];simp only[KK];omega
  have b1:bits .and .u64 S' 2147483648=0:=by rw[hS,hV];have:=Zbc v 0 (by omega) (by omega);simpa[KK]using this
  have b2:bits .and .u64 S' 2147483647=0:=by rw[hS,hV];have:=ZaJ v 0 (by omega) (by omega);simpa[KK]using this
  have c1:IntKind.i32.wrap V=V:=by rw[Zbg];omega
  have hV1:0<V:=by omega
  have jU:V<2147483648:=by omega
  have q3:decide (V<0)=false:=decide_eq_false (by omega);have q4:decide (0<V)=true:=decide_eq_true (by omega);refine⟨_,(Zat rfl rfl (by k_ne) rfl H.f_addU64 (x_addU64_n L) (x_addU64_b L) (x_addU64_x L) .u64 (x_addU64_f L) rfl rfl hw.cellSt (hw.thaw 0)).trans (by rw[eS];rfl),fun hl=>absurd hl.1 (by omega),fun _=>⟨qt+120,?_⟩⟩;clear hw hS hV eS eT
  walk_nrm
  q_val (.int .u64 S')
  q_c Zh
  q_c Yf
  q_leave1 H.f_uAdd
  q_val (.int .u64 S')
  q_c Zh
  (repeat q_c Zo)
  q_reg
  q_val (.int .u64 S')
  q_vn (.int .u64 0)
  q_val (.bool false)
  q_val (.bool false)
  q_skip
  q_skip
  q_val (.bool false)
  q_c Zh
  q_cond false
  q_c Z3
  (repeat q_c Zo)
  q_reg
  q_val (.int .u64 S')
  q_vn (.int .u64 V)
  q_vn (.int .i32 V)
  q_val (.int .i32 V)
  q_c Zh
  (repeat q_c Zo)
  q_reg
  q_val (.int .u64 S')
  q_vn (.int .u64 0)
  q_vn (.int .u32 0)
  q_val (.int .u32 0)
  q_c Zh
  (repeat q_c Zo)
  q_reg
  q_val (.bool true)
  q_val (.int .i64 (-1))
  q_val (.bool false)
  q_val (.bool false)
  q_val (.bool false)
  q_skip
  q_skip
  q_skip
  q_skip
  q_val (.bool false)
  q_c Zh
  q_cond false
  q_c Z3
  (repeat q_c Zo)
  q_reg
  q_val (.int .i32 V)
  q_vn (.bool false)
  q_c Zh
  q_cond false
  q_c Z3
  (repeat q_c Zo)
  q_reg
  q_val (.int .u32 0)
  q_vn (.bool false)
  q_val (.bool false)
  q_skip
  q_skip
  q_val (.bool false)
  q_val (.bool false)
  q_skip
  q_skip
  q_skip
  q_skip
  q_val (.bool false)
  q_c Zh
  q_cond false
  q_c Z3
  (repeat q_c Zo)
  q_reg
  q_val (.int .i32 V)
  q_vn (.bool true)
  q_val (.bool true)
  q_skip
  q_skip
  q_val (.bool true)
  q_c Zh
  q_cond true
  q_c Yf
  q_enable
  q_leave0 H.f_add
  exact Ob hT (by omega)
 .obtain⟨V,hV⟩:∃V:Int,V=(v:Int):=⟨_,rfl⟩
  obtain⟨S',hS⟩:∃S':Int,S'=V*KK+1:=⟨_,rfl⟩;have eS:IntKind.u64.wrap (((v:Int)+1)*KK+((1:Nat):Int)+18446744069414584320)=S':=by rw[Zbk,hS,hV];simp only[KK];omega
  have eT:(v:Int)*KK+((1:Nat):Int)=S':=by rw[hS,hV];simp
  rw[eT];have a1:S' / 4294967296=V:=by rw[hS,hV];simp only[KK];omega
  have b1:bits .and .u64 S' 2147483648=0:=by rw[hS,hV];have:=Zbc v 1 (by omega) (by omega);simpa[KK]using this
  have b2:bits .and .u64 S' 2147483647=1:=by rw[hS,hV];have:=ZaJ v 1 (by omega) (by omega);simpa[KK]using this
  have c1:IntKind.i32.wrap V=V:=by rw[Zbg];omega
  have hV1:0<V:=by omega
  have jU:V<2147483648:=by omega
  have q3:decide (V<0)=false:=decide_eq_false (by omega);have q4:decide (0<V)=true:=decide_eq_true (by omega);refine⟨_,(Zat rfl rfl (by k_ne) rfl H.f_addU64 (x_addU64_n L) (x_addU64_b L) (x_addU64_x L) .u64 (x_addU64_f L) rfl rfl hw.cellSt (hw.thaw 0)).trans (by rw[eS];rfl),fun hl=>absurd hl.1 (by omega),fun _=>⟨qt+120,?_⟩⟩;clear hw hS hV eS eT
  walk_nrm
  q_val (.int .u64 S')
  q_c Zh
  q_c Yf
  q_leave1 H.f_uAdd
  q_val (.int .u64 S')
  q_c Zh
  (repeat q_c Zo)
  q_reg
  q_val (.int .u64 S')
  q_vn (.int .u64 0)
  q_val (.bool false)
  q_val (.bool false)
  q_skip
  q_skip
  q_val (.bool false)
  q_c Zh
  q_cond false
  q_c Z3
  (repeat q_c Zo)
  q_reg
  q_val (.int .u64 S')
  q_vn (.int .u64 V)
  q_vn (.int .i32 V)
  q_val (.int .i32 V)
  q_c Zh
  (repeat q_c Zo)
  q_reg
  q_val (.int .u64 S')
  q_vn (.int .u64 1)
  q_vn (.int .u32 1)
  q_val (.int .u32 1)
  q_c Zh
  (repeat q_c Zo)
  q_reg
  q_val (.bool true)
  q_val (.int .i64 (-1))
  q_val (.bool false)
  q_val (.bool false)
  q_val (.bool false)
  q_skip
  q_skip
  q_skip
  q_skip
  q_val (.bool false)
  q_c Zh
  q_cond false
  q_c Z3
  (repeat q_c Zo)
  q_reg
  q_val (.int .i32 V)
  q_vn (.bool false)
  q_c Zh
  q_cond false
  q_c Z3
  (repeat q_c Zo)
  q_reg
  q_val (.int .u32 1)
  q_vn (.bool true)
  q_val (.bool true)
  q_val (.int .i64 (-1))
  q_val (.bool false)
  q_val (.bool false)
  q_val (.bool false)
  q_skip
  q_skip
  q_skip
  q_skip
  q_val (.bool false)
  q_c Zh
  q_cond false
  q_c Z3
  (repeat q_c Zo)
  q_reg
  q_val (.int .i32 V)
  q_vn (.bool true)
  q_val (.bool true)
  q_skip
  q_skip
  q_val (.bool true)
  q_c Zh
  q_cond true
  q_c Yf
  q_enable
  q_leave0 H.f_add
  exact Ob hT (by omega)
def ah4 {P:Zp}(H:WgLib P L){Wg:Nat}{S:Nat->Prop}{c:ZT}{cs:List ZT}{qt:Nat}(vO:c.mode=.returning)(hT:ZcD P qt 0 (G c cs))(w:Zc)(hK:WgLive L.tWg Wg w):
  Goes P false (Ai L.tWg Wg S) DC0 (AtR0 P L.tWg Wg S) 43 (G ((baseD L.done).at ⟨#[.pointer (some ⟨Wg,0,none⟩),Zf,Zf,Zf],[]⟩ [.code (body_done L)]) (c::cs)) w:=by
 lib_facts
 have hA:= @vX L P H Wg S;simp only[body_done,body_add,doneFn,addFn,Zx]at hA⊢
 u_reg Ag hK
 u_op Ag hK
 u_in Ag hK
 refine goes_call rfl rfl (by k_ne) rfl H.f_add (nm_add L) rfl ⟨by u_nil,?_⟩
 walk_nrmf addFn
 refine hA (qt:=qt+3) ?_ _ hK
 q_c Zh
 q_c stepG_end
 exact QuitsD.leaveD rfl rfl H.f_done rfl vO hT
end
structure Gw (ty:Zr)(Wg:Nat)(S:Nat->Prop)(F:Zc->Prop):Prop where
 rely:∀w w',Ai ty Wg S w w'->F w->F w'
 set:∀w (a:Addr) v,a.block=Wg->F w->F (w.setCell a v)
def Ab {ty:Zr}{Wg:Nat}{S:Nat->Prop}{F:Zc->Prop}(Ax:Gw ty Wg S F){w w₁:Zc}(h:F w/\WgLive ty Wg w)(r:Ai ty Wg S w w₁):F w₁/\WgLive ty Wg w₁:=⟨Ax.rely _ _ r h.1,r.live h.2⟩
section
variable {L:WgLink}
def vY {P:Zp}(H:WgLib P L){Wg Ch:Nat}{S:Nat->Prop}{F:Zc->Prop}(Ax:Gw L.tWg Wg S F){Pay:Gu}{Next:Ci}{b₀:ZT}{Q_:Act}{E8:Array Oper}{Q':Nat}{EY:List Nat}{Ra:List Item}{cs:List ZT}{mT:Nat}
  (hT:∀w,F w->WgLive L.tWg Wg w->Goes P true (Ai L.tWg Wg S) DC0 (AtGoS P L.tWg Wg Ch Pay Next S) mT (G (b₀.at (Q_.put ((E8[Q']?).bind (·.dst)) (.tuple #[])) (.inRegion E8 EY::Ra)) cs) w)
  (w:Zc) (hF:F w/\WgLive L.tWg Wg w):
  Goes P true (Ai L.tWg Wg S) DC0 (AtKdS P L.tWg Wg Ch Pay Next S) 40 (G ((base L.add).at ⟨#[.pointer (some ⟨Wg,0,none⟩),.int .i64 1,Zf,Zf,Zf,Zf,Zf,Zf,Zf,Zf,Zf,Zf,Zf,Zf,Zf,Zf,Zf,Zf,Zf,Zf,Zf,Zf,Zf,Zf,Zf,Zf,Zf,Zf,Zf,Zf,Zf,Zf,Zf,Zf,Zf,Zf,Zf,Zf,Zf,Zf,Zf,Zf,Zf,Zf,Zf,Zf,Zf,Zf,Zf,Zf,Zf,Zf,Zf,Zf,Zf,Zf,Zf,Zf,Zf,Zf,Zf,Zf,Zf,Zf,Zf,Zf,Zf,Zf,Zf,Zf,Zf,Zf,Zf,Zf,Zf,Zf,Zf,Zf,Zf,Zf,Zf,Zf,Zf,Zf,Zf,Zf,Zf,Zf,Zf,Zf,Zf,Zf,Zf,Zf,Zf,Zf,Zf,Zf,Zf,Zf,Zf,Zf,Zf,Zf,Zf,Zf,Zf,Zf,Zf,Zf,Zf,Zf,Zf,Zf,Zf,Zf,Zf],[]⟩ [.code (body_add L)]) (b₀.at Q_ (.inRegion E8 (Q'::EY)::Ra)::cs)) w:=by
 lib_facts
 simp only[body_add,addFn,Zx]
 u_c Zo (Ab Ax) hF
 u_cond true (Ab Ax) hF
 u_c Zo (Ab Ax) hF
 u_c Zo (Ab Ax) hF
 u_reg (Ab Ax) hF
 u_op (Ab Ax) hF
 u_op (Ab Ax) hF
 u_c Zh (Ab Ax) hF
 u_cond false (Ab Ax) hF
 u_c Z3 (Ab Ax) hF
 u_c Zo (Ab Ax) hF
 u_reg (Ab Ax) hF
 refine Z2 (fun w₁ BV=>?_);replace hF:=Ab Ax hF BV;clear BV;refine⟨rfl,_,Zcb .disable (by simp) rfl rfl (by k_ne) rfl H.f_disable (x_disable_n L) (x_disable_b L) (x_disable_x L) (x_disable_f L),60,?_⟩
 walk_nrm
 repeat (first|u_c Zo (Ab Ax) hF|u_c Zh (Ab Ax) hF|u_c Z3 (Ab Ax) hF|u_cond false (Ab Ax) hF|u_reg (Ab Ax) hF|u_op (Ab Ax) hF|u_defer (Ab Ax) hF|u_bub (Ab Ax) hF|u_call H.f_uAdd (nm_uAdd L) uAddFn (Ab Ax) hF)
 refine Z2 (fun w₂ Cw=>?_);replace hF:=Ab Ax hF Cw;clear Cw;refine⟨rfl,fun v hv hw=>?_⟩;rcases z7 v with rfl|hvp
 .replace hw:WgAt L.tWg Wg w₂ 0 0:=by simpa using hw
  have z:(((0:Nat):Int)+1)*KK=KK:=by simp
  rw[z];have e0:IntKind.u64.wrap (0+4294967296)=KK:=by decide
  refine⟨_,(Zat rfl rfl (by k_ne) rfl H.f_addU64 (x_addU64_n L) (x_addU64_b L) (x_addU64_x L) .u64 (x_addU64_f L) rfl rfl hw.cellSt (hw.thaw 0)).trans (by rw[e0];rfl),fun _=>⟨150,?_⟩,fun h=>absurd rfl h⟩;replace hF:F (w₂.setCell (stA Wg) (.int .u64 KK))/\WgLive L.tWg Wg (w₂.setCell (stA Wg) (.int .u64 KK)):=⟨Ax.set _ _ _ rfl hF.1,⟨_,_,hw.setSt _⟩⟩;clear hw;simp only[KK]at hF⊢
  walk_nrm
  u_op (Ab Ax) hF
  u_c Zh (Ab Ax) hF
  u_c Yf (Ab Ax) hF
  u_leave1 H.f_uAdd (Ab Ax) hF
  u_op (Ab Ax) hF
  u_c Zh (Ab Ax) hF
  (repeat u_c Zo (Ab Ax) hF)
  u_reg (Ab Ax) hF
  iterate 4 (u_op (Ab Ax) hF)
  u_skip (Ab Ax) hF
  u_skip (Ab Ax) hF
  u_op (Ab Ax) hF
  u_c Zh (Ab Ax) hF
  u_cond false (Ab Ax) hF
  u_c Z3 (Ab Ax) hF
  (repeat u_c Zo (Ab Ax) hF)
  u_reg (Ab Ax) hF
  iterate 4 (u_op (Ab Ax) hF)
  u_c Zh (Ab Ax) hF
  (repeat u_c Zo (Ab Ax) hF)
  u_reg (Ab Ax) hF
  iterate 4 (u_op (Ab Ax) hF)
  u_c Zh (Ab Ax) hF
  (repeat u_c Zo (Ab Ax) hF)
  u_reg (Ab Ax) hF
  iterate 10 (u_op (Ab Ax) hF)
  u_c Zh (Ab Ax) hF
  u_cond true (Ab Ax) hF
  (repeat u_c Zo (Ab Ax) hF)
  u_reg (Ab Ax) hF
  iterate 3 (u_op (Ab Ax) hF)
  u_conv H.underlying_tPU32 H.room_tU32 (WgLive.cell1 hF.2).choose_spec (Ab Ax) hF
  refine Z2 (fun CN aah=>?_);replace hF:=Ab Ax hF aah;clear aah;refine⟨rfl,_,ZbT .read (by simp) rfl rfl (by k_ne) rfl H.f_raceRead (x_raceRead_n L) (x_raceRead_b L) (x_raceRead_x L) (x_raceRead_f L) (by simp[ZbS,smA]),80,?_⟩
  walk_nrm
  u_c Zh (Ab Ax) hF
  (repeat u_c Zo (Ab Ax) hF)
  (repeat u_c Zo (Ab Ax) hF)
  u_reg (Ab Ax) hF
  u_op (Ab Ax) hF
  u_op (Ab Ax) hF
  u_c Zh (Ab Ax) hF
  u_cond false (Ab Ax) hF
  u_c Z3 (Ab Ax) hF
  (repeat u_c Zo (Ab Ax) hF)
  u_reg (Ab Ax) hF
  iterate 3 (u_op (Ab Ax) hF)
  u_skip (Ab Ax) hF
  u_skip (Ab Ax) hF
  u_op (Ab Ax) hF
  u_op (Ab Ax) hF
  u_skip (Ab Ax) hF
  u_skip (Ab Ax) hF
  u_skip (Ab Ax) hF
  u_skip (Ab Ax) hF
  u_op (Ab Ax) hF
  u_c Zh (Ab Ax) hF
  u_cond false (Ab Ax) hF
  u_c Z3 (Ab Ax) hF
  (repeat u_c Zo (Ab Ax) hF)
  u_reg (Ab Ax) hF
  iterate 3 (u_op (Ab Ax) hF)
  u_skip (Ab Ax) hF
  u_skip (Ab Ax) hF
  u_op (Ab Ax) hF
  u_c Zh (Ab Ax) hF
  u_cond true (Ab Ax) hF
  u_c Yf (Ab Ax) hF
  refine Z2 (fun D9 FJ=>?_);replace hF:=Ab Ax hF FJ;clear FJ;refine⟨rfl,_,stepG_unwind_entry (v:=.tuple #[]) (evs:= #[mk .enable]) rfl H.f_enable (x_enable_n L) (x_enable_b L) (x_enable_x L) (x_enable_f L) (by simp[Zdi]) (by simp[mk]) (by simp[mk]),mT+1,?_⟩
  u_leave0 H.f_add (Ab Ax) hF
  exact hT _ hF.1 hF.2
 .obtain⟨V,hV⟩:∃V:Int,V=(v:Int)+1:=⟨_,rfl⟩
  obtain⟨S',hS⟩:∃S':Int,S'=V*KK:=⟨_,rfl⟩;have eS:IntKind.u64.wrap ((v:Int)*KK+4294967296)=S':=by rw[Zbk,hS,hV];simp only[KK];omega
  rw[<-hV, <-hS];have a1:S' / 4294967296=V:=by rw[hS];simp only[KK];omega
  have b1:bits .and .u64 S' 2147483648=0:=by rw[hS,hV];have:=Zbc (v+1) 0 (by omega) (by omega);simpa[KK]using this
  have b2:bits .and .u64 S' 2147483647=0:=by rw[hS,hV];have:=ZaJ (v+1) 0 (by omega) (by omega);simpa[KK]using this
  have c1:IntKind.i32.wrap V=V:=by rw[Zbg];omega
  have hV1:1<V:=by omega
  have jU:V<2147483648:=by omega
  have q1:(V==1)=false:=by simp;omega
  have q2:decide (V=1)=false:=decide_eq_false (by omega);have q3:decide (V<0)=false:=decide_eq_false (by omega);have q4:decide (0<V)=true:=decide_eq_true (by omega);have q5:(V==0)=false:=by simp;omega
  have q6:decide (V=0)=false:=decide_eq_false (by omega);refine⟨_,(Zat rfl rfl (by k_ne) rfl H.f_addU64 (x_addU64_n L) (x_addU64_b L) (x_addU64_x L) .u64 (x_addU64_f L) rfl rfl hw.cellSt (hw.thaw 0)).trans (by rw[eS];rfl),fun h=>absurd h (by omega),fun _=>⟨150,?_⟩⟩;replace hF:F (w₂.setCell (stA Wg) (.int .u64 S'))/\WgLive L.tWg Wg (w₂.setCell (stA Wg) (.int .u64 S')):=⟨Ax.set _ _ _ rfl hF.1,⟨_,_,hw.setSt _⟩⟩;clear hw hS hV eS
  walk_nrm
  u_op (Ab Ax) hF
  u_c Zh (Ab Ax) hF
  u_c Yf (Ab Ax) hF
  u_leave1 H.f_uAdd (Ab Ax) hF
  u_op (Ab Ax) hF
  u_c Zh (Ab Ax) hF
  (repeat u_c Zo (Ab Ax) hF)
  u_reg (Ab Ax) hF
  iterate 4 (u_op (Ab Ax) hF)
  u_skip (Ab Ax) hF
  u_skip (Ab Ax) hF
  u_op (Ab Ax) hF
  u_c Zh (Ab Ax) hF
  u_cnd false (Ab Ax) hF
  u_c Z3 (Ab Ax) hF
  (repeat u_c Zo (Ab Ax) hF)
  u_reg (Ab Ax) hF
  iterate 4 (u_op (Ab Ax) hF)
  u_c Zh (Ab Ax) hF
  (repeat u_c Zo (Ab Ax) hF)
  u_reg (Ab Ax) hF
  iterate 4 (u_op (Ab Ax) hF)
  u_c Zh (Ab Ax) hF
  (repeat u_c Zo (Ab Ax) hF)
  u_reg (Ab Ax) hF
  iterate 10 (u_op (Ab Ax) hF)
  u_c Zh (Ab Ax) hF
  u_cnd false (Ab Ax) hF
  u_c Z3 (Ab Ax) hF
  (repeat u_c Zo (Ab Ax) hF)
  u_reg (Ab Ax) hF
  u_op (Ab Ax) hF
  u_op (Ab Ax) hF
  u_c Zh (Ab Ax) hF
  u_cnd false (Ab Ax) hF
  u_c Z3 (Ab Ax) hF
  (repeat u_c Zo (Ab Ax) hF)
  u_reg (Ab Ax) hF
  iterate 3 (u_op (Ab Ax) hF)
  u_skip (Ab Ax) hF
  u_skip (Ab Ax) hF
  u_op (Ab Ax) hF
  u_op (Ab Ax) hF
  u_skip (Ab Ax) hF
  u_skip (Ab Ax) hF
  u_skip (Ab Ax) hF
  u_skip (Ab Ax) hF
  u_op (Ab Ax) hF
  u_c Zh (Ab Ax) hF
  u_cnd false (Ab Ax) hF
  u_c Z3 (Ab Ax) hF
  (repeat u_c Zo (Ab Ax) hF)
  u_reg (Ab Ax) hF
  iterate 3 (u_op (Ab Ax) hF)
  u_skip (Ab Ax) hF
  u_skip (Ab Ax) hF
  u_op (Ab Ax) hF
  u_c Zh (Ab Ax) hF
  u_cnd true (Ab Ax) hF
  u_c Yf (Ab Ax) hF
  refine Z2 (fun D9 FJ=>?_);replace hF:=Ab Ax hF FJ;clear FJ;refine⟨rfl,_,stepG_unwind_entry (v:=.tuple #[]) (evs:= #[mk .enable]) rfl H.f_enable (x_enable_n L) (x_enable_b L) (x_enable_x L) (x_enable_f L) (by simp[Zdi]) (by simp[mk]) (by simp[mk]),mT+1,?_⟩
  u_leave0 H.f_add (Ab Ax) hF
  exact hT _ hF.1 hF.2
end
def RD {main:Bool}{R:Zc->Zc->Prop}{D:Zc->Zc->Array zc->Prop}{Stop:Zi->Zc->Prop}(h:Goes P main R D Stop n g w)(hn:n<=m):Goes P main R D Stop m g w:=by
 induction hn with
 |refl=>exact h
 |step _ ih=>exact ih.more
def Xh (L:WgLink)(F:(Nat->Prop)->Zc->Prop)(Wg:Nat)(c:ZT)(cs:List ZT):Ci:=fun S g w=>
 Gw L.tWg Wg S (F S)/\∃T:Array Ze,g=G ((base L.wait).at ⟨T,[]⟩ [.code (L7 L),.inLoop (L7 L),.inBlock 0]) (c::cs)/\T.size=84/\T[0]?=some (.pointer (some ⟨Wg,0,none⟩))/\F S w/\WgLive L.tWg Wg w
section
variable {L:WgLink}
def fV (H:WgLib P L){F:(Nat->Prop)->Zc->Prop}{Anch:Ci}{b₀:ZT}{Q_:Act}{E8:Array Oper}{Q':Nat}{EY:List Nat}{Ra:List Item}{cs:List ZT}{mT:Nat}(hT:∀S,Gw L.tWg Wg S (F S)->∀w,F S w->WgLive L.tWg Wg w->Goes P true (Ai L.tWg Wg S) DC0 (Anch S) mT (G (b₀.at (Q_.put ((E8[Q']?).bind (·.dst)) (.tuple #[])) (.inRegion E8 EY::Ra)) cs) w)
 (S:Nat->Prop) (g:Zi) (w:Zc) (h:Xh L F Wg (b₀.at Q_ (.inRegion E8 (Q'::EY)::Ra)) cs S g w):
  ∃m,Goes P true (Ai L.tWg Wg S) DC0 (AtW1 P L.tWg Wg Anch (Xh L F Wg (b₀.at Q_ (.inRegion E8 (Q'::EY)::Ra)) cs) S) m g w:=by
 lib_facts
 obtain⟨Ax,T,rfl,anu,t0,hF⟩:=h;obtain⟨v0,v1,v2,v3,v4,v5,v6,v7,v8,v9,v10,v11,RE,RF,RG,RH,RI,RJ,RK,RL,v20,RM,RN,RO,RP,RQ,RR,RS,RU,RV,v30,RX,RY,RZ,R0,R3,R4,Xi,Xj,Xk,Xl,R5,v42,v43,v44,v45,v46,v47,v48,v49,v50,v51,v52,v53,v54,v55,v56,v57,v58,v59,v60,v61,v62,v63,v64,v65,v66,v67,v68,v69,v70,v71,v72,v73,v74,v75,v76,v77,v78,v79,v80,v81,v82,v83,rfl⟩:=array84 T anu;simp only[Z1,ZP,ZN]at t0;subst t0;refine⟨40,?_⟩;simp only[L7,body_wait,waitFn,Zx]
 u_c Zbx (Ab Ax) hF
 (repeat u_c Zo (Ab Ax) hF)
 u_reg (Ab Ax) hF
 iterate 3 (u_op (Ab Ax) hF)
 u_call H.f_uLoad (nm_uLoad L) uLoadFn (Ab Ax) hF
 (repeat u_c Zo (Ab Ax) hF)
 u_reg (Ab Ax) hF
 u_op (Ab Ax) hF
 u_c Zh (Ab Ax) hF
 (repeat u_c Zo (Ab Ax) hF)
 u_reg (Ab Ax) hF
 iterate 3 (u_op (Ab Ax) hF)
 refine Z2 (fun w₁ Oc=>?_);replace hF:=Ab Ax hF Oc;clear Oc;refine⟨rfl,fun v hv hw=>?_⟩;rcases z7 v with rfl|hvp
 .replace hw:WgAt L.tWg Wg w₁ 0 0:=by simpa using hw
  refine⟨_,Zbw (v:=0) rfl rfl (by k_ne) rfl H.f_loadU64 (x_loadU64_n L) (x_loadU64_b L) (x_loadU64_x L) .u64 (x_loadU64_f L) rfl hw.cellSt,fun _=>⟨80,?_⟩,fun h=>absurd rfl h⟩;clear hw
  walk_nrm
  u_op (Ab Ax) hF
  u_c Zh (Ab Ax) hF
  u_c Yf (Ab Ax) hF
  u_leave1 H.f_uLoad (Ab Ax) hF
  u_op (Ab Ax) hF
  u_c Zh (Ab Ax) hF
  (repeat u_c Zo (Ab Ax) hF)
  u_reg (Ab Ax) hF
  iterate 4 (u_op (Ab Ax) hF)
  u_c Zh (Ab Ax) hF
  (repeat u_c Zo (Ab Ax) hF)
  u_reg (Ab Ax) hF
  iterate 4 (u_op (Ab Ax) hF)
  u_c Zh (Ab Ax) hF
  (repeat u_c Zo (Ab Ax) hF)
  u_reg (Ab Ax) hF
  u_op (Ab Ax) hF
  u_op (Ab Ax) hF
  u_c Zh (Ab Ax) hF
  u_cond true (Ab Ax) hF
  (repeat u_c Zo (Ab Ax) hF)
  u_cond true (Ab Ax) hF
  (repeat u_c Zo (Ab Ax) hF)
  u_reg (Ab Ax) hF
  refine Z2 (fun vZ bX=>?_);replace hF:=Ab Ax hF bX;clear bX;refine⟨rfl,_,Zcb .enable (by simp) rfl rfl (by k_ne) rfl H.f_enable (x_enable_n L) (x_enable_b L) (x_enable_x L) (x_enable_f L),30,?_⟩
  walk_nrm
  u_c Zh (Ab Ax) hF
  u_reg (Ab Ax) hF
  u_op (Ab Ax) hF
  u_conv H.underlying_tWgP H.room_tWg (WgLive.cell0 hF.2).choose_spec (Ab Ax) hF
  refine Z2 (fun v_ bY=>?_);replace hF:=Ab Ax hF bY;clear bY;refine⟨rfl,_,ZbT .acquire (by simp) rfl rfl (by k_ne) rfl H.f_acquire (x_acquire_n L) (x_acquire_b L) (x_acquire_x L) (x_acquire_f L) (by simp[ZbS,stA]),mT+40,?_⟩
  walk_nrm
  u_c Zh (Ab Ax) hF
  (repeat u_c Zo (Ab Ax) hF)
  u_reg (Ab Ax) hF
  iterate 8 (u_op (Ab Ax) hF)
  u_skip (Ab Ax) hF
  u_skip (Ab Ax) hF
  u_op (Ab Ax) hF
  u_c Zh (Ab Ax) hF
  u_cond false (Ab Ax) hF
  u_c Z3 (Ab Ax) hF
  u_c Yf (Ab Ax) hF
  u_leave0 H.f_wait (Ab Ax) hF
  exact RD (hT S Ax _ hF.1 hF.2) (by omega)
 .obtain⟨S',hS⟩:∃S':Int,(v:Int)*KK=S':=⟨_,rfl⟩
  have a1:S' / 4294967296=(v:Int):=by rw[<-hS];simp only[KK];omega
  have b1:bits .and .u64 S' 2147483648=0:=by rw[<-hS];have:=Zbc v 0 (by omega) (by omega);simpa[KK]using this
  have b2:bits .and .u64 S' 2147483647=0:=by rw[<-hS];have:=ZaJ v 0 (by omega) (by omega);simpa[KK]using this
  have c1:IntKind.i32.wrap (v:Int)=(v:Int):=by rw[Zbg];omega
  have w1:IntKind.u64.wrap (S'+1)=S'+1:=by rw[Zbk, <-hS];simp only[KK];omega
  have q3:decide ((v:Int)<0)=false:=decide_eq_false (by omega);have q4:decide (0<(v:Int))=true:=decide_eq_true (by omega);have q5:((v:Int)==0)=false:=by simp;omega
  have q6:decide ((v:Int)=0)=false:=decide_eq_false (by omega);rw[hS]at hw;refine⟨_,Zbw (v:=S') rfl rfl (by k_ne) rfl H.f_loadU64 (x_loadU64_n L) (x_loadU64_b L) (x_loadU64_x L) .u64 (x_loadU64_f L) rfl hw.cellSt,fun h0=>absurd h0 (by omega),fun _=>⟨90,?_⟩⟩;clear hw
  walk_nrm
  u_op (Ab Ax) hF
  u_c Zh (Ab Ax) hF
  u_c Yf (Ab Ax) hF
  u_leave1 H.f_uLoad (Ab Ax) hF
  u_op (Ab Ax) hF
  u_c Zh (Ab Ax) hF
  (repeat u_c Zo (Ab Ax) hF)
  u_reg (Ab Ax) hF
  iterate 4 (u_op (Ab Ax) hF)
  u_c Zh (Ab Ax) hF
  (repeat u_c Zo (Ab Ax) hF)
  u_reg (Ab Ax) hF
  iterate 4 (u_op (Ab Ax) hF)
  u_c Zh (Ab Ax) hF
  (repeat u_c Zo (Ab Ax) hF)
  u_reg (Ab Ax) hF
  u_op (Ab Ax) hF
  u_op (Ab Ax) hF
  u_c Zh (Ab Ax) hF
  u_cnd false (Ab Ax) hF
  u_c Z3 (Ab Ax) hF
  (repeat u_c Zo (Ab Ax) hF)
  u_reg (Ab Ax) hF
  iterate 6 (u_op (Ab Ax) hF)
  u_call H.f_uCas (nm_uCas L) uCasFn (Ab Ax) hF
  (repeat u_c Zo (Ab Ax) hF)
  u_reg (Ab Ax) hF
  u_op (Ab Ax) hF
  u_c Zh (Ab Ax) hF
  (repeat u_c Zo (Ab Ax) hF)
  u_reg (Ab Ax) hF
  iterate 5 (u_op (Ab Ax) hF)
  refine Z2 (fun w₂ bZ=>?_);replace hF:=Ab Ax hF bZ;clear bZ;refine⟨rfl,fun v' Vm hw=>⟨fun e=>?_,fun e=>?_⟩⟩
  .subst e
   rw[hS]at hw⊢;refine⟨_,(stepG_cas_hit (v:=S') (n:=S'+1) rfl rfl (by k_ne) rfl H.f_casU64 (x_casU64_n L) (x_casU64_b L) (x_casU64_x L) .u64 (x_casU64_f L) rfl rfl rfl hw.cellSt (hw.thaw 0)).trans (by rfl),60,?_⟩;replace hF:F S (w₂.setCell (stA Wg) (.int .u64 (S'+1)))/\WgLive L.tWg Wg (w₂.setCell (stA Wg) (.int .u64 (S'+1))):=⟨Ax.set _ _ _ rfl hF.1,⟨_,_,hw.setSt _⟩⟩;clear hw
   walk_nrm
   u_op (Ab Ax) hF
   u_c Zh (Ab Ax) hF
   u_c Yf (Ab Ax) hF
   u_leave1 H.f_uCas (Ab Ax) hF
   u_c Zh (Ab Ax) hF
   u_cond true (Ab Ax) hF
   (repeat u_c Zo (Ab Ax) hF)
   u_reg (Ab Ax) hF
   iterate 4 (u_op (Ab Ax) hF)
   u_c Zh (Ab Ax) hF
   u_cond true (Ab Ax) hF
   u_reg (Ab Ax) hF
   iterate 3 (u_op (Ab Ax) hF)
   u_conv H.underlying_tPU32 H.room_tU32 (WgLive.cell1 hF.2).choose_spec (Ab Ax) hF
   refine Z2 (fun CN qR=>?_);replace hF:=Ab Ax hF qR;clear qR;refine⟨rfl,_,ZbT .write (by simp) rfl rfl (by k_ne) rfl H.f_raceWrite (x_raceWrite_n L) (x_raceWrite_b L) (x_raceWrite_x L) (x_raceWrite_f L) (by simp[ZbS,smA]),60,?_⟩
   walk_nrm
   u_c Zh (Ab Ax) hF
   (repeat u_c Zo (Ab Ax) hF)
   u_reg (Ab Ax) hF
   u_op (Ab Ax) hF
   u_c Zh (Ab Ax) hF
   (repeat u_c Zo (Ab Ax) hF)
   u_reg (Ab Ax) hF
   iterate 4 (u_op (Ab Ax) hF)
   u_skip (Ab Ax) hF
   u_op (Ab Ax) hF
   u_c Zh (Ab Ax) hF
   u_cond false (Ab Ax) hF
   u_c Z3 (Ab Ax) hF
   (repeat u_c Zo (Ab Ax) hF)
   u_reg (Ab Ax) hF
   iterate 4 (u_op (Ab Ax) hF)
   refine Z2 (fun D9 b_=>?_);replace hF:=Ab Ax hF b_;clear b_;refine⟨rfl,rfl,fun⟨st,hw⟩=>stepG_semacquire_wait rfl rfl rfl H.f_semacquire (x_semacquire_n L) (x_semacquire_b L) (x_semacquire_x L) (x_semacquire_f L) (by simp[ZbS,smA]) hw.cellSm,fun hf=>?_⟩;refine⟨_,(stepG_semacquire (n:=1) rfl rfl (by k_ne) rfl H.f_semacquire (x_semacquire_n L) (x_semacquire_b L) (x_semacquire_x L) (x_semacquire_f L) (by simp[ZbS,smA]) hf.cellSm (by k_ne) (hf.thaw 1)).trans (by rfl),50,?_⟩;replace hF:F S (D9.setCell (smA Wg) (.int .u32 0))/\WgLive L.tWg Wg (D9.setCell (smA Wg) (.int .u32 0)):=⟨Ax.set _ _ _ rfl hF.1,⟨_,_,hf.setSm 0⟩⟩;clear hf
   walk_nrm
   u_c Zh (Ab Ax) hF
   (repeat u_c Zo (Ab Ax) hF)
   u_reg (Ab Ax) hF
   iterate 3 (u_op (Ab Ax) hF)
   u_call H.f_uLoad (nm_uLoad L) uLoadFn (Ab Ax) hF
   (repeat u_c Zo (Ab Ax) hF)
   u_reg (Ab Ax) hF
   u_op (Ab Ax) hF
   u_c Zh (Ab Ax) hF
   (repeat u_c Zo (Ab Ax) hF)
   u_reg (Ab Ax) hF
   iterate 3 (u_op (Ab Ax) hF)
   refine Z2 (fun Lh aai=>?_);replace hF:=Ab Ax hF aai;clear aai;refine⟨rfl,fun hw=>⟨_,Zbw (v:=0) rfl rfl (by k_ne) rfl H.f_loadU64 (x_loadU64_n L) (x_loadU64_b L) (x_loadU64_x L) .u64 (x_loadU64_f L) rfl hw.cellSt,40,?_⟩⟩;clear hw
   walk_nrm
   u_op (Ab Ax) hF
   u_c Zh (Ab Ax) hF
   u_c Yf (Ab Ax) hF
   u_leave1 H.f_uLoad (Ab Ax) hF
   u_op (Ab Ax) hF
   u_op (Ab Ax) hF
   u_c Zh (Ab Ax) hF
   (repeat u_c Zo (Ab Ax) hF)
   u_cond true (Ab Ax) hF
   (repeat u_c Zo (Ab Ax) hF)
   u_reg (Ab Ax) hF
   refine Z2 (fun vZ bX=>?_);replace hF:=Ab Ax hF bX;clear bX;refine⟨rfl,_,Zcb .enable (by simp) rfl rfl (by k_ne) rfl H.f_enable (x_enable_n L) (x_enable_b L) (x_enable_x L) (x_enable_f L),30,?_⟩
   walk_nrm
   u_c Zh (Ab Ax) hF
   u_reg (Ab Ax) hF
   u_op (Ab Ax) hF
   u_conv H.underlying_tWgP H.room_tWg (WgLive.cell0 hF.2).choose_spec (Ab Ax) hF
   refine Z2 (fun v_ bY=>?_);replace hF:=Ab Ax hF bY;clear bY;refine⟨rfl,_,ZbT .acquire (by simp) rfl rfl (by k_ne) rfl H.f_acquire (x_acquire_n L) (x_acquire_b L) (x_acquire_x L) (x_acquire_f L) (by simp[ZbS,stA]),mT+40,?_⟩
   walk_nrm
   u_c Zh (Ab Ax) hF
   (repeat u_c Zo (Ab Ax) hF)
   u_reg (Ab Ax) hF
   u_op (Ab Ax) hF
   u_c Zh (Ab Ax) hF
   u_cond false (Ab Ax) hF
   u_c Z3 (Ab Ax) hF
   u_c Yf (Ab Ax) hF
   u_leave0 H.f_wait (Ab Ax) hF
   exact RD (hT S Ax _ hF.1 hF.2) (by omega)
  .refine⟨_,stepG_cas_miss (v:=(v':Int)*KK) (old:=S') (n:=S'+1) rfl rfl (by k_ne) rfl H.f_casU64 (x_casU64_n L) (x_casU64_b L) (x_casU64_x L) .u64 (x_casU64_f L) rfl rfl rfl hw.cellSt (hw.thaw 0) (by rw[<-hS];simp only[KK];omega),30,?_⟩
   clear hw
   walk_nrm
   u_op (Ab Ax) hF
   u_c Zh (Ab Ax) hF
   u_c Yf (Ab Ax) hF
   u_leave1 H.f_uCas (Ab Ax) hF
   u_c Zh (Ab Ax) hF
   u_cond false (Ab Ax) hF
   u_c Z3 (Ab Ax) hF
   u_c stepG_inBlock (Ab Ax) hF
   u_c stepG_inLoop (Ab Ax) hF
   refine Z2 (fun D9 FJ=>?_);replace hF:=Ab Ax hF FJ;exact⟨Ax,_,rfl,by simp,by simp,hF⟩
def fW {P:Zp}(H:WgLib P L){Wg:Nat}{F:(Nat->Prop)->Zc->Prop}{S:Nat->Prop}(Ax:Gw L.tWg Wg S (F S)){b₀:ZT}{Q_:Act}{E8:Array Oper}{Q':Nat}{EY:List Nat}{Ra:List Item}{cs:List ZT}(w:Zc)(hF:F S w/\WgLive L.tWg Wg w):
  Goes P true (Ai L.tWg Wg S) DC0 (AtKd P L.tWg Wg (Xh L F Wg (b₀.at Q_ (.inRegion E8 (Q'::EY)::Ra)) cs) S) 10
   (G ((base L.wait).at ⟨#[.pointer (some ⟨Wg,0,none⟩),Zf,Zf,Zf,Zf,Zf,Zf,Zf,Zf,Zf,Zf,Zf,Zf,Zf,Zf,Zf,Zf,Zf,Zf,Zf,Zf,Zf,Zf,Zf,Zf,Zf,Zf,Zf,Zf,Zf,Zf,Zf,Zf,Zf,Zf,Zf,Zf,Zf,Zf,Zf,Zf,Zf,Zf,Zf,Zf,Zf,Zf,Zf,Zf,Zf,Zf,Zf,Zf,Zf,Zf,Zf,Zf,Zf,Zf,Zf,Zf,Zf,Zf,Zf,Zf,Zf,Zf,Zf,Zf,Zf,Zf,Zf,Zf,Zf,Zf,Zf,Zf,Zf,Zf,Zf,Zf,Zf,Zf,Zf],[]⟩ [.code (body_wait L)]) (b₀.at Q_ (.inRegion E8 (Q'::EY)::Ra)::cs)) w:=by
 lib_facts
 simp only[body_wait,waitFn,Zx]
 (repeat u_c Zo (Ab Ax) hF)
 u_cond true (Ab Ax) hF
 u_reg (Ab Ax) hF
 refine Z2 (fun w₁ Oc=>?_);replace hF:=Ab Ax hF Oc;clear Oc;refine⟨rfl,_,Zcb .disable (by simp) rfl rfl (by k_ne) rfl H.f_disable (x_disable_n L) (x_disable_b L) (x_disable_x L) (x_disable_f L),20,?_⟩
 walk_nrm
 u_c Zh (Ab Ax) hF
 u_c Zbx (Ab Ax) hF
 u_c stepG_loop (Ab Ax) hF
 exact Z2 (fun w₂ Cw=>⟨Ax,_,rfl,by simp,by simp,Ab Ax hF Cw⟩)
end
end Go.Pair
namespace Go.Pair
open Go Go.Conc Go.FO
section
variable {P:Zp}{m:Bool}{ty:Zr}{Wg:Nat}{Stop Stop₂:Ci}
variable {S L T₀ S' L':Nat->Prop}
variable {w w' w₁ w₂ w₀:Zc}
def Ai.sub {T:Nat->Prop}(h:Ai ty Wg T w w₂)(hs:∀b,S b->T b):Ai ty Wg S w w₂:=⟨⟨fun b hb=>h.base.same b (hs b hb),h.base.size,h.base.os⟩,h.live⟩
variable {g g' a':Zi}
def Bf.ah5 {n₀:Nat}{S₀:Nat->Prop}(hT:∀b,T₀ b->b<n₀)(hST:∀b,S₀ b->T₀ b)(h:Bf P m ty Wg S₀ Stop S g w):
  n₀<=w.heap.size->(∀b,S b->S₀ b\/n₀<=b)->(∀b,S₀ b->S b)->
  (∀S g w,(∀b,S b->S₀ b\/n₀<=b)->Stop S g w->Stop₂ (fun b=>S b\/T₀ b) g w)->Bf P m ty Wg T₀ Stop₂ (fun b=>S b\/T₀ b) g w:=by
 induction h with
 |stop h=>
  intro _ hS _ hi;exact .stop fun w₂ hr=>hi _ _ _ hS (h w₂ (hr.sub fun b hb=>.inl hb))
 | @step S g w hs GX E6 Jl h _ ih=>
  intro hn hS wa hi;refine .bB hs fun w₂ hr=>?_;have Qg:Ai ty Wg S w w₂:=hr.sub fun b hb=>.inl hb;obtain⟨h1,hG⟩:=h w₂ Qg;have aaj:n₀<=w₂.heap.size:=Zt hn hr.base.size;have ah6:Ip (fun b=>S b\/T₀ b) w₂ (E6 w₂)=fun b=>Ip S w₂ (E6 w₂) b\/T₀ b:=by
   funext b
   apply propext;unfold Ip;constructor
   .rintro((x|x)|x)
    .exact .inl (.inl x)
    .exact .inr x
    .exact .inl (.inr x)
   .rintro((x|x)|x)
    .exact .inl (.inl x)
    .exact .inr x
    .exact .inl (.inr x)
  refine⟨_,_,_,h1,⟨hG.size,fun b hb hx=>?_,hG.os,hG.tape,hG.output,fun e he=>?_⟩,?_⟩
  .refine hG.still b hb ?_
   rcases hx with hx|hx
   .exact .inl fun y=>hx (.inl y)
   .by_cases hSb:S b
    .rcases hS b hSb with y|y
     .exact .inr y
     .have:=hT b hx;omega
    .exact .inl hSb
  .have:=hG.evs e he
   rw[ah6];unfold WV at this⊢;have key:∀b,Ip S w₂ (E6 w₂) b->(e.write=true->¬S₀ b)->e.write=true->¬T₀ b:=by
    intro b hb hw Ru ht;rcases hb with y|y
    .rcases hS b y with z|z
     .exact hw Ru z
     .have:=hT b ht;omega
    .have:=hT b ht;omega
   split
   .rename_i a hl
    rw[hl]at this;exact⟨.inl this.1,key _ this.1 this.2⟩
   .rename_i r hl
    rw[hl]at this;exact⟨.inl this.1,key _ this.1 this.2⟩
   .trivial
   .trivial
   .rename_i h1 h2 h3 h4
    split at this
    .exact absurd ‹_› (h1 _)
    .exact absurd ‹_› (h2 _)
    .exact absurd ‹_› h3
    .exact absurd ‹_› h4
    .exact this
  .rw[ah6]
   refine ih w₂ Qg (Zt aaj hG.size) (fun b hb=>?_) (fun b hb=>.inl (wa b hb)) hi;rcases hb with y|y
   .exact hS b y
   .exact .inr (Zt aaj y.1)
end
end Go.Pair
namespace Go.Pair
open Go Go.Conc Go.FO
open Go.ConcN (WgLive)
structure Kept (ty:Zr)(Wg:Nat)(T₀:Nat->Prop)(w₀:Zc)(S:Nat->Prop)(w:Zc):Prop where
 sub:∀b,T₀ b->S b/\b<w.heap.size
 rely:D_ T₀ w₀ w
 qS:¬S Wg
 lt:Wg<w.heap.size
 live:WgLive ty Wg w
variable {ty:Zr}
variable {p b i j k s' e' m' dd' d Ld f' m Wg n:Nat}
variable {w w' w₁ w₂ w₀:Zc}
def WgLive.of_heap (h:WgLive ty Wg w)(e:w₁.heap[Wg]?=w.heap[Wg]?):WgLive ty Wg w₁:=by
 unfold WgLive Go.ConcR.WgAt at*;rw[e];exact h
section
variable {P:Zp}{m:Bool}{ty:Zr}{Wg:Nat}{Stop:Ci}
variable {S L T₀ S' L':Nat->Prop}
def Kept.rel (h:Kept ty Wg T₀ w₀ S w)(hr:Ai ty Wg S w w₂):Kept ty Wg T₀ w₀ S w₂:=
 ⟨fun b hb=>⟨(h.sub b hb).1,Zm (h.sub b hb).2 hr.base.size⟩,h.rely.trans ⟨fun b hb=>hr.base.same b (h.sub b hb).1,hr.base.size,hr.base.os⟩,h.qS,Zm h.lt hr.base.size,hr.live h.live⟩
def Kept.step {T₀ S:Nat->Prop}{w₀ w w₁:Zc}{es:Array zc}(h:Kept ty Wg T₀ w₀ S w)(hG:Mq S T₀ w w₁ es):Kept ty Wg T₀ w₀ (Ip S w w₁) w₁:=by
 refine⟨fun b hb=>⟨.inl (h.sub b hb).1,Zm (h.sub b hb).2 hG.size⟩,h.rely.trans ⟨fun b hb=>hG.still b (h.sub b hb).2 (.inr hb),hG.size,hG.os⟩,?_,Zm h.lt hG.size,WgLive.of_heap h.live (hG.still Wg h.lt (.inl h.qS))⟩;rintro(x|x)
 .exact h.qS x
 .have:=h.lt;omega
variable {g g' a':Zi}
def Bf.Aw (h:Bf P m ty Wg T₀ Stop S g w):Kept ty Wg T₀ w₀ S w->
  Bf P m ty Wg T₀ (fun S g w=>Stop S g w/\Kept ty Wg T₀ w₀ S w) S g w:=by
 induction h with
 |stop h=>
  intro hk;exact .stop fun w₂ hr=>⟨h w₂ hr,hk.rel hr⟩
 |step hs GX E6 Jl h _ ih=>
  intro hk;exact .step hs GX E6 Jl h fun w₂ hr=>ih w₂ hr ((hk.rel hr).step (h w₂ hr).2)
end
end Go.Pair
