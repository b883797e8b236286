/- Part of a proof. -/
import Derived.Test.YtkkjobdfheidkaaGreatDoorQ01
import Derived.Conc.LoneCalls
set_option maxRecDepth 100000
set_option maxHeartbeats 6400000
open Array renaming getElem?_eq_some_iff→Za,getElem?_eq_getElem→ZB,getElem?_setIfInBounds_ne→Zk,getElem?_map→Yi,getElem?_setIfInBounds_self_of_lt→Z9,mem_of_getElem?→zM,forIn_toList→YV,mem_append→Zaw,all_eq_true_iff_forall_mem→Yc
open Classical renaming byContradiction→YF,choose→ze,choose_spec→zl
open Go renaming World→Zb,Program→Zp,Goroutine→Zg,stepG→Z6,Event→ZU,Frame→ZA,Value→Zc,PanicEntry→zc,runN_ended→ZaE,FuncId→YT,undef→Ze,Trace→YL,TypeId→Zs
open Go.Conc renaming crowd→Yg,Deaf_other→YN,mem_ofEvents→ZJ
open Go.Frame renaming raise→ZaN,enter→Zq
open Go.Instr renaming takeDeferred→Yj
open Go.MemAct renaming ofEvent→ZK,touch?→zV
open Go.MemOp renaming ofEvents→ZE
open Go.Sem renaming runT_eq→Z5,runT→ZF
open Go.World renaming shape?→Ys,frozen?→Yu,cell?→zJ
open List renaming length_cons→zK,append_assoc→ZaQ
open Nat renaming le_trans→Zx,le_refl→Zj,lt_of_lt_of_le→Zl,eq_zero_or_pos→Yr
open Option renaming map_eq_some_iff→zd,bind_eq_some_iff→ZP
open Option.some renaming injEq→ZI,inj→Z2
namespace Go.BK
open Go
abbrev tp (w:Zb)(t:Tape):Zb:= {w with tape:=t}
section
variable {P' P:Zp}{B:Fj}{m:Bool}{Stop:Zg→Zb→Prop}
def Fe (P' P:Zp)(B:Fj)(g:Zg)(w:Zb):Prop:=∃ρ g' w',Env P' P ρ∧qF P' P B ρ g g'∧WR ρ w w'∧ρ.sp=fun _=>false
def Rc (Q:Zp)(m:Bool)(g:Zg)(w:Zb):Prop:=∀g' w' es,Z6 Q m g w≠ .go g' w' es
def Ha (B:Fj)(g:Zg):Prop:=∃c r v,B.lcs=c::r∧g=AO (c.finish v) r
theorem WR.ib {ρ:Ren}{w w':Zb}(h:WR ρ w w'):∃V_,Hv ρ w V_:=
 ⟨tp w' (fun i=>w.tape (i - w'.drawn+w.drawn)),h.obj,fun i q=>by show w.tape (w.drawn+i) q=w.tape (w'.drawn+i - w'.drawn+w.drawn) q;rw[Nat.add_sub_cancel_left,Nat.add_comm],h.os⟩
theorem Fe.step (T:Twins P' P)(hd:BL≤P.depth)(hB:B.La){g:Zg}{w:Zb}(hS:Fe P' P B g w)(Bn:¬BM B g){AE:Zg}{w₁:Zb}{es:Array ZU}(h:Z6 P' m g w=.go AE w₁ es):
  ((Fe P' P B AE w₁∨Ha B AE∨PZ B AE)∧lp (fun w=>Z6 P' m g w) w AE w₁ es∧w.drawn≤w₁.drawn∧w₁.tape=w.tape∧TN w w₁):=by
 obtain⟨ρ,g',V_,E,hG,lC,JQ⟩:=hS;obtain⟨w',hw⟩:=lC.ib;obtain⟨Bl,w₂,tW,h',hx⟩:=Rb (m:=m) (m':=m) T E hd hB hG Bn hw (fun o u e=>by rw[h];intro x;cases x);rw[h]at h';cases h';rcases hx with⟨σ,_,hl,h1,h2,hW,hT⟩|⟨σ,w₁',CZ,Bu,L,_,hO,hT⟩
 ·exact⟨.inr (.inr hl.lost),hT,h1,h2,hW⟩
 ·refine⟨?_,hT,L.Fc.drawn,L.Fc.OO,L.tV⟩
  rcases hO with hO|⟨_,c,r,c',r',v,v',h1,_,_,h2,_⟩|⟨fn,_,_,_,_,_,_,_,hs,_⟩
  ·exact .inl ⟨σ,CZ,w₁',E.mono L.le,hO,L.world,L.le.2.2.2.trans JQ⟩
  ·exact .inr (.inl ⟨c,r,v,h1,h2⟩)
  ·rw[L.le.2.2.2,JQ]at hs;cases hs
theorem Fe.Dg {g:Zg}{w:Zb}(h:Fe P' P B g w)(t:Tape):Fe P' P B g (tp w t):=
 let⟨ρ,g',w',E,hG,hw,hs⟩:=h;⟨ρ,g',w',E,hG,⟨hw.obj,hw.os⟩,hs⟩
def Gq (P':Zp)(B:Fj)(m:Bool)(Stop:Zg→Zb→Prop):Nat→Zg→Zb→Prop
 |0,g,w=>Stop g w
 |n+1,g,w=>Stop g w∨(¬BM B g∧∃g' w' es,Z6 P' m g w=.go g' w' es∧Gq P' B m Stop n g' w')
structure C8 (P':Zp)(B:Fj)(m:Bool)(Stop:Zg→Zb→Prop):Prop where
 blind:∀g w t,Stop g w→Stop g (tp w t)
 back:∀g w,Ha B g∨PZ B g→Stop g w∨Rc P' m g w
theorem Gq.here {n:Nat}{g:Zg}{w:Zb}(h:Gq P' B m Stop n g w)(hn:Rc P' m g w∨BM B g):Stop g w:=by
 cases n with
 |zero=>exact h
 |succ n=>
  rcases h with h|⟨ha,g',w',es,h,_⟩
  ·exact h
  ·exact hn.elim (fun x=>absurd h (x _ _ _)) fun x=>absurd x ha
theorem C8.lD (K:C8 P' B m Stop){n:Nat}{g:Zg}{w:Zb}(h:Gq P' B m Stop n g w)(hb:Ha B g∨PZ B g):Stop g w:=
 (K.back g w hb).elim id fun hn=>h.here (.inl hn)
theorem Gq.acC (T:Twins P' P)(hd:BL≤P.depth)(hB:B.La)(K:C8 P' B m Stop):∀(n:Nat) {g:Zg} {w:Zb} {a b:Tape},Fe P' P B g w→Gq P' B m Stop n g (tp w a)→(∀i,w.drawn≤i→a i=b i)→Gq P' B m Stop n g (tp w b):=by
 intro n
 induction n with
 |zero=>intro g w a b _ h _;exact K.blind g (tp w a) b h
 |succ n ih=>
  intro g w a b hS h Eh;rcases h with h|⟨ha,AE,w₁,es,h,hn⟩
  ·exact .inl (K.blind g (tp w a) b h)
  ·obtain⟨hO,hT,h1,h2,_⟩:=(hS.Dg a).step T hd hB ha h
   ·refine .inr ⟨ha,AE,tp w₁ b,es,hT b (fun i x _=>(Eh i x).symm),?_⟩
    have e:w₁=tp w₁ a:=by cases w₁;cases h2;rfl
    rcases hO with hO|hO
    ·exact ih hO (by rw[←e];exact hn) fun i x=>Eh i (Zx h1 x)
    ·have:=K.blind _ _ b (K.lD hn hO)
     cases n with
     |zero=>exact this
     |succ n=>exact .inl this
inductive Cm (P':Zp)(B:Fj)(m:Bool)(Stop:Zg→Zb→Prop):Zg→Zb→Prop
 |stop {g:Zg} {w:Zb} (h:Stop g w):Cm P' B m Stop g w
 |step {g:Zg} {w:Zb} (hn:¬BM B g) (hr:g.status=.running) (AE:Tape→Zg) (w₁:Tape→Zb) (es:Tape→Array ZU) (h:∀t,Z6 P' m g (tp w t)=.go (AE t) (w₁ t) (es t)) (k:∀t,Cm P' B m Stop (AE t) (w₁ t)):Cm P' B m Stop g w
structure qH (P' P:Zp)(B:Fj)(m:Bool)(Stop:Zg→Zb→Prop)(s:Zg×Zb):Prop where
 arM:Fe P' P B s.1 s.2
 reach:∀t,∃n,Gq P' B m Stop n s.1 (tp s.2 t)
 not:¬Cm P' B m Stop s.1 s.2
theorem qH.next (T:Twins P' P)(hd:BL≤P.depth)(hB:B.La)(K:C8 P' B m Stop){s:Zg×Zb}(h:qH P' P B m Stop s):
  ∃s',qH P' P B m Stop s'∧s.2.drawn≤s'.2.drawn∧∃es,∀t:Tape,(∀i,s.2.drawn≤i→i<s'.2.drawn→t i=s'.2.tape i)→Z6 P' m s.1 (tp s.2 t)=.go s'.1 (tp s'.2 t) es:=by
 obtain⟨g,w⟩:=s;obtain⟨hS,hR,hM⟩:=h;dsimp only at hS hR hM⊢;have hns:∀t,¬Stop g (tp w t):=fun t h=>hM (.stop (K.blind g (tp w t) w.tape h));have pD:¬BM B g:=fun h=>by obtain⟨n,hn⟩:=hR w.tape;exact hns _ (hn.here (.inr h))
 have hgo:∀t,∃n AE w₁ es,Z6 P' m g (tp w t)=.go AE w₁ es∧Gq P' B m Stop n AE w₁:=by
  intro t;obtain⟨n,hn⟩:=hR t;cases n with
  |zero=>exact absurd hn (hns t)
  |succ n=>
   rcases hn with h|⟨_,AE,w₁,es,h,hn⟩
   ·exact absurd h (hns t)
   ·exact⟨n,AE,w₁,es,h,hn⟩
 have:∃t,∀AE w₁ es,Z6 P' m g (tp w t)=.go AE w₁ es→¬Cm P' B m Stop AE w₁:=by
  apply YF;intro hx;have:∀t,∃p:Zg×Zb×Array ZU,Z6 P' m g (tp w t)=.go p.1 p.2.1 p.2.2∧Cm P' B m Stop p.1 p.2.1:=by
   intro t;apply YF;intro hy;exact hx ⟨t,fun AE w₁ es h1 h2=>hy ⟨(AE,w₁,es),h1,h2⟩⟩
  exact hM (.step pD (by obtain⟨_,_,_,_,⟨_,_,_,_,rfl,_,_⟩,_⟩:=hS;rfl) (fun t=>(ze (this t)).1) (fun t=>(ze (this t)).2.1) (fun t=>(ze (this t)).2.2) (fun t=>(zl (this t)).1) fun t=>(zl (this t)).2)
 obtain⟨t,ht⟩:=this;obtain⟨n,AE,w₁,es,h,hn⟩:=hgo t;have tX:=ht _ _ _ h;obtain⟨hO,hT,h1,h2,_⟩:=(hS.Dg t).step T hd hB pD h
 ·have Kd:Fe P' P B AE w₁:=hO.elim id fun hb=>absurd (.stop (K.lD hn hb)) tX
  refine⟨(AE,w₁),⟨Kd,fun t'=>?_,tX⟩,h1,es,fun t' ht'=>hT t' fun i x y=>?_⟩
  ·have hT':=hT (fun i=>if i<w₁.drawn then t i else t' i) fun i _ y=>by rw[if_pos y]
   obtain⟨n',Bl,w₂,tW,h',hn'⟩:=hgo (fun i=>if i<w₁.drawn then t i else t' i);have aiA:Z6 P' m g (tp w fun i=>if i<w₁.drawn then t i else t' i)=.go AE (tp w₁ fun i=>if i<w₁.drawn then t i else t' i) es:=hT';rw[aiA]at h';cases h';exact⟨n',hn'.acC T hd hB K _ Kd fun i x=>by have x':w₁.drawn≤i:=x;rw[if_neg (by omega)]⟩
  ·have:=ht' i x y
   rw[this,h2]
theorem least (p:Nat→Prop)(h:∃n,p n):∃n,p n∧∀j,j<n→¬p j:=by
 obtain⟨n,hn⟩:=h
 induction n using Nat.strongRecOn with
 |_ n ih=>
  by_cases hx:∃j,j<n∧p j
  ·obtain⟨j,hj,hp⟩:=hx;exact ih j hj hp
  ·exact⟨n,hn,fun j hj hp=>hx ⟨j,hj,hp⟩⟩
open Classical in
theorem H6 (T:Twins P' P)(hd:BL≤P.depth)(hB:B.La)(K:C8 P' B m Stop){g:Zg}{w:Zb}(hS:Fe P' P B g w)(hR:∀t,∃n,Gq P' B m Stop n g (tp w t)):Cm P' B m Stop g w:=by
 apply YF;intro hM
 let S:= {s:Zg×Zb // qH P' P B m Stop s}
 let aiB:S:=⟨(g,w),hS,hR,hM⟩
 have hx:∀s:S,∃s':S,s.1.2.drawn≤s'.1.2.drawn∧∃es,∀t:Tape,(∀i,s.1.2.drawn≤i→i<s'.1.2.drawn→t i=s'.1.2.tape i)→Z6 P' m s.1.1 (tp s.1.2 t)=.go s'.1.1 (tp s'.1.2 t) es:=by
  rintro⟨s,hs⟩;obtain⟨s',h1,h2⟩:=hs.next T hd hB K;exact⟨⟨s',h1⟩,h2⟩
 let nx:S→S:=fun s=>ze (hx s)
 have wW:∀s,s.1.2.drawn≤(nx s).1.2.drawn∧∃es,∀t:Tape,(∀i,s.1.2.drawn≤i→i<(nx s).1.2.drawn→t i=(nx s).1.2.tape i)→Z6 P' m s.1.1 (tp s.1.2 t)=.go (nx s).1.1 (tp (nx s).1.2 t) es:=fun s=>zl (hx s)
 let q:Nat→S:=fun k=>Nat.rec aiB (fun _ s=>nx s) k
 have hq:∀k,q (k+1)=nx (q k):=fun _=>rfl;have mono:∀k,(q k).1.2.drawn≤(q (k+1)).1.2.drawn:=fun k=>by rw[hq];exact(wW (q k)).1
 have acD:∀a b,a≤b→(q a).1.2.drawn≤(q b).1.2.drawn:=by
  intro a b Eh
  induction Eh with
  |refl=>exact Zj _
  |step _ ih=>exact Zx ih (mono _)
 let tape:Tape:=fun i=>if h:∃k,i<(q (k+1)).1.2.drawn then(q (ze (least _ h)+1)).1.2.tape i else w.tape i
 have acE:∀k i,(q k).1.2.drawn≤i→i<(q (k+1)).1.2.drawn→tape i=(q (k+1)).1.2.tape i:=by
  intro k i h1 h2;have he:∃k,i<(q (k+1)).1.2.drawn:=⟨k,h2⟩;have hf:ze (least _ he)=k:=by
   obtain⟨h3,h4⟩:=zl (least _ he);generalize ze (least _ he)=f at h3 h4;rcases Nat.lt_trichotomy f k with h5|h5|h5
   ·have:=acD _ _ (show f+1≤k from h5)
    omega
   ·exact h5
   ·exact absurd h2 (h4 k h5)
  show(if h:∃k,i<(q (k+1)).1.2.drawn then(q (ze (least _ h)+1)).1.2.tape i else w.tape i)=_;rw[dif_pos he,hf]
 have never:∀n k,¬Gq P' B m Stop n (q k).1.1 (tp (q k).1.2 tape):=by
  intro n
  induction n with
  |zero=>intro k h;exact(q k).2.not (.stop (K.blind _ (tp (q k).1.2 tape) (q k).1.2.tape h))
  |succ n ih=>
   intro k h;rcases h with h|⟨_,g',w',es,h,hn⟩
   ·exact(q k).2.not (.stop (K.blind _ (tp (q k).1.2 tape) (q k).1.2.tape h))
   ·obtain⟨_,Bu,hs⟩:=wW (q k)
    have:=hs tape fun i x y=>by have:=acE k i x (by rw[hq];exact y);rw[this,hq]
    rw[this]at h;cases h;exact ih (k+1) hn
 obtain⟨n,hn⟩:=hR tape;exact never n 0 hn
end
def CV (Q:Zp):ZA:= {fn:=Q.funcs.size,tmps:= #[],todo:=[.call default false "" #[]],defers:=[{target:=.nil,args:= #[]}],mode:=.run,kind:=.normal}
section
variable {P' P:Zp}{m:Bool}
theorem bX:Extern.next "" =none:=rfl
theorem Hb {v:Zc}{w:Zb}:∃o u e,Z6 P' m (AO ((CV P').finish v) []) w=.ended o u e:=by
 rw[(BC (Q:=P') (m:=m) (fr:=(CV P').finish v) (cs:=[]) (w:=w)).1 rfl];unfold stepG.exec;simp[CV,Frame.finish,bX]
theorem NQ {x:List zc}{w:Zb}:∃o u e,Z6 P' m (AO ((CV P').raise x) []) w=.ended o u e:=by
 rw[(BC (Q:=P') (m:=m) (fr:=(CV P').raise x) (cs:=[]) (w:=w)).2 (by intro h;cases h)];unfold unwind callDeferred;simp[CV,ZaN]
theorem H7 {g:Zg}{w:Zb}(h:∃o u e,Z6 P' m g w=.ended o u e):Rc P' m g w:=by
 obtain⟨o,u,e,h⟩:=h;intro g' w' es x;rw[h]at x;cases x
def IsX (P':Zp)(PostX:List zc→Zb→Prop)(g:Zg)(w:Zb):Prop:=∃x,g=AO ((CV P').raise x) []∧PostX x w
def eB (P':Zp)(Post:Zc→Zb→Prop)(PostX:List zc→Zb→Prop)(g:Zg)(w:Zb):Prop:=(∃v,g=AO ((CV P').finish v) []∧Post v w)∨IsX P' PostX g w
def TP (P':Zp)(B:Fj)(Y:Array Zc→Zc)(Post:Zc→Zb→Prop)(PostX:List zc→Zb→Prop)(g:Zg)(w:Zb):Prop:=(BM B g∧g.callers=B.lcs∧Post (Y g.frame.tmps) w)∨IsX P' PostX g w
def C2 {α:Type}(Post:α→Zb→Prop):Prop:=∀v w t,Post v w→Post v (tp w t)
theorem MM {B:Fj}(hl:B.lcs=[CV P']){g:Zg}{w:Zb}(hx:Ha B g∨PZ B g):Rc P' m g w:=by
 rcases hx with⟨c,r,v,h1,rfl⟩|⟨c,r,x,h1,rfl⟩
 ·rw[hl]at h1;cases h1
  exact H7 Hb
 ·rw[hl]at h1;cases h1
  exact H7 NQ
theorem IsX.blind {PostX:List zc→Zb→Prop}(hb:C2 PostX){g:Zg}{w:Zb}{t:Tape}(h:IsX P' PostX g w):IsX P' PostX g (tp w t):=let⟨x,h1,h2⟩:=h;⟨x,h1,hb _ _ _ h2⟩
theorem WL {B:Fj}{Post:Zc→Zb→Prop}{PostX:List zc→Zb→Prop}(hl:B.lcs=[CV P'])(hb:C2 Post)(Hq:C2 PostX):C8 P' B m (eB P' Post PostX):=
 ⟨fun _ _ _ h=>h.elim (fun⟨v,h1,h2⟩=>.inl ⟨v,h1,hb _ _ _ h2⟩) fun h=>.inr (h.blind Hq),fun _ _ hx=>.inr (MM hl hx)⟩
theorem WM {B:Fj}{Y:Array Zc→Zc}{Post:Zc→Zb→Prop}{PostX:List zc→Zb→Prop}(hl:B.lcs=[CV P'])(hb:C2 Post)(Hq:C2 PostX):C8 P' B m (TP P' B Y Post PostX):=
 ⟨fun _ _ _ h=>h.elim (fun⟨h1,h2,h3⟩=>.inl ⟨h1,h2,hb _ _ _ h3⟩) fun h=>.inr (h.blind Hq),fun _ _ hx=>.inr (MM hl hx)⟩
theorem EY {fr Bd:ZA}{cs cs':List ZA}{w w':Zb}(h:lone fr cs w=lone Bd cs' w'):fr=Bd∧cs=cs'∧w=w':=by
 unfold lone at h;simp at h;exact⟨h.2.1,h.2.2,h.1⟩
theorem EB {fr:ZA}{cs:List ZA}{w:Zb}(h:∃o u e,Z6 P' true (AO fr cs) w=.ended o u e):∃o u,Go.step P' (lone fr cs w)=.ended o u:=by
 obtain⟨o,u,e,h⟩:=h;exact⟨o,u,step_lone_ended (by rw[show Z6 P' true {frame:=fr,callers:=cs,status:=.running,dying:=none} w=_ from h];rfl)⟩
theorem Qn {fr Ke:ZA}{cs Kf:List ZA}{w w₁:Zb}{es:Array ZU}(h:Z6 P' true (AO fr cs) w=.go (AO Ke Kf) w₁ es):Go.step P' (lone fr cs w)=.next (lone Ke Kf w₁):=
 step_lone_go (by rw[show Z6 P' true {frame:=fr,callers:=cs,status:=.running,dying:=none} w=_ from h];rfl)
theorem ZaE {fr:ZA}{cs:List ZA}{w:Zb}{m':Machine}{N:Nat}(h:∃o u,Go.step P' (lone fr cs w)=.ended o u)(hN:runN P' N (lone fr cs w)=.next m'):lone fr cs w=m':=by
 obtain⟨o,u,h⟩:=h;cases N with
 |zero=>simpa[runN]using hN
 |succ N=>simp[runN,h]at hN
theorem KQ {fr Ke:ZA}{cs Kf:List ZA}{w w₁:Zb}{m':Machine}{N:Nat}(h:Go.step P' (lone fr cs w)=.next (lone Ke Kf w₁))(hN:runN P' N (lone fr cs w)=.next m'):lone fr cs w=m'∨∃N',N=N'+1∧runN P' N' (lone Ke Kf w₁)=.next m':=by
 cases N with
 |zero=>exact .inl (by simpa[runN]using hN)
 |succ N=>exact .inr ⟨N,rfl,by simpa[runN,h]using hN⟩
theorem qF.AO {B:Fj}{ρ:Ren}{g g':Zg}(h:qF P' P B ρ g g'):∃fr cs,g=Go.BK.AO fr cs∧B.lcs.length<(fr::cs).length:=by
 obtain⟨fr,cs,Bd,cs',rfl,rfl,hS⟩:=h;exact⟨fr,cs,rfl,hS.deep⟩
theorem H8 (T:Twins P' P)(hd:BL≤P.depth){B:Fj}(hB:B.La)(hl:B.lcs=[CV P']){Stop:Zg→Zb→Prop}{fe:ZA}{w':Zb}
  (acF:(∃v,fe=(CV P').finish v)∨∃x,fe=(CV P').raise x)
  (eC:∀v,fe=(CV P').finish v→B.K.seg=false→B.top=false→Stop (AO fe []) w') (acG:∀x,fe=(CV P').raise x→Stop (AO fe []) w')
  (Rd:∀N fr cs w,Fe P' P B (AO fr cs) w→BM B (AO fr cs)→runN P' N (lone fr cs w)=.next (lone fe [] w')→Stop (AO fr cs) w):
  ∀(N:Nat) (fr:ZA) (cs:List ZA) (w:Zb),Fe P' P B (AO fr cs) w→runN P' N (lone fr cs w)=.next (lone fe [] w')→∃n,Gq P' B true Stop n (AO fr cs) w:=by
 intro N
 induction N with
 |zero=>
  intro fr cs w hS hN;obtain⟨ρ,g',w₂,E,hG,hw,_⟩:=hS;obtain⟨eF,eG,h1,h2⟩:=hG.AO;cases h1;obtain⟨rfl,rfl,rfl⟩:=EY (by simpa[runN]using hN);rw[hl]at h2;simp at h2
 |succ N ih=>
  intro fr cs w hS hN;by_cases ha:BM B (AO fr cs)
  ·exact⟨0,Rd _ _ _ _ hS ha hN⟩
  ·obtain⟨ρ,g',DL,E,hG,lC,JQ⟩:=hS
   obtain⟨w₂,hw⟩:=lC.ib;have hlen:B.lcs.length<(fr::cs).length:=by
    obtain⟨eF,eG,h1,h2⟩:=hG.AO;cases h1;exact h2
   have BI:lone fr cs w≠lone fe [] w':=by
    intro x;obtain⟨rfl,rfl,rfl⟩:=EY x;rw[hl]at hlen;simp at hlen
   have acH:∀o u e,Z6 P' true (AO fr cs) w≠ .ended o u e:=fun o u e hx=>BI (ZaE (EB ⟨o,u,e,hx⟩) hN);obtain⟨AE,w₁,es,hg,hx⟩:=Rb (m:=true) (m':=true) T E hd hB hG ha hw acH;have go:∀Ke Kf,AE=AO Ke Kf→runN P' N (lone Ke Kf w₁)=.next (lone fe [] w'):=by
    rintro Ke Kf rfl;rcases KQ (Qn hg) hN with h|⟨N',h1,h2⟩
    ·exact absurd h BI
    ·cases h1;exact h2
   have AL:∀v x,(CV P').finish v≠(CV P').raise x:=fun v x h=>by have:=congrArg Frame.mode h;cases this
   rcases hx with⟨_,_,JH,_⟩|⟨σ,w₁',CZ,Bu,L,_,hO,_⟩
   ·obtain⟨c,r,x,h1,h2⟩:=JH.lost
    rw[hl]at h1;cases h1;have:=ZaE (EB NQ) (go _ _ h2);obtain⟨h3,_,h4⟩:=EY this;refine⟨1,.inr ⟨ha,AE,w₁,es,hg,?_⟩⟩;rw[h2,h3,h4];exact acG x h3.symm
   ·rcases hO with hO|⟨hs,c,r,c',r',WN,tY,h1,hrc,_,h2,_⟩|⟨fn,_,_,_,_,_,_,_,hs,_⟩
    ·obtain⟨Ke,Kf,h1,_⟩:=hO.AO
     obtain⟨n,hn⟩:=ih Ke Kf w₁ ⟨σ,CZ,w₁',E.mono L.le,h1▸hO,L.world,L.le.2.2.2.trans JQ⟩ (go _ _ h1);exact⟨n+1,.inr ⟨ha,AE,w₁,es,hg,h1▸hn⟩⟩
    ·rw[hl]at h1;cases h1
     have:=ZaE (EB Hb) (go _ _ h2);obtain⟨h3,_,h4⟩:=EY this;refine⟨1,.inr ⟨ha,AE,w₁,es,hg,?_⟩⟩;rw[h2,h3,h4];refine eC _ h3.symm hs ?_;cases NP:B.top with
     |false=>rfl
     |true=>rw[(hB.qG NP).2.2]at hrc;cases hrc
    ·rw[L.le.2.2.2,JQ]at hs;cases hs
def eH (Post:Zc→Zb→Prop)(PostX:List zc→Zb→Prop):Ending→Zb→Prop
 | .returned v,w=>Post v w
 | .panicked x,w=>PostX x w
 |_,_=>False
theorem H9 {f:YT}{args:Array Zc}{w:Zb}{Post:Zc→Zb→Prop}{PostX:List zc→Zb→Prop}(h:Calls P' f args w (eH Post PostX)):
  ∃N fe w',((∃v,fe=(CV P').finish v∧Post v w')∨∃x,fe=(CV P').raise x∧PostX x w')∧runN P' N (lone (Zq P' f args .normal) [CV P'] w)=.next (lone fe [] w'):=by
 obtain⟨e,w',fr,hR,qI,_,wX⟩:=h [CV P'];cases e with
 |returned v=>
  obtain⟨N,hN⟩:=Steps.trans (show Steps P' _ _ from qI) (Steps.one (step_leave_returned wX));exact⟨N,_,w',.inl ⟨v,rfl,hR⟩,hN⟩
 |panicked c=>
  obtain⟨N,hN⟩:=Steps.trans (show Steps P' _ _ from qI) (Steps.one (step_leave_panicked wX));exact⟨N,_,w',.inr ⟨c,rfl,hR⟩,hN⟩
 |outgrown=>exact hR.elim
theorem Dt {v:Zc}{x:List zc}(h:(CV P').finish v=(CV P').raise x):False:=by have:=congrArg Frame.mode h;cases this
theorem LO {v v':Zc}(h:(CV P').finish v=(CV P').finish v'):v=v':=by
 have:=congrArg Frame.todo h;simpa[CV,Frame.finish]using this
theorem SZ (T:Twins P' P)(hd:BL≤P.depth){B:Fj}(hB:B.La)(hl:B.lcs=[CV P'])(hs:B.K.seg=false)(NP:B.top=false){f:YT}{args:Array Zc}{w:Zb}{Post:Zc→Zb→Prop}{PostX:List zc→Zb→Prop}(hb:C2 Post)(Hq:C2 PostX)
  (hS:Fe P' P B (AO (Zq P' f args .normal) [CV P']) w) (hc:∀t,Calls P' f args (tp w t) (eH Post PostX)):Cm P' B true (eB P' Post PostX) (AO (Zq P' f args .normal) [CV P']) w:=by
 refine H6 T hd hB (WL hl hb Hq) hS fun t=>?_;obtain⟨N,fe,w',hR,hN⟩:=H9 (hc t);refine H8 T hd hB hl (hR.imp (fun⟨v,h,_⟩=>⟨v,h⟩) fun⟨x,h,_⟩=>⟨x,h⟩) (fun v h _ _=>?_) (fun x h=>?_) (fun _ _ _ _ _ h=>by rcases h with⟨h,_⟩|⟨h,_⟩;(rw[hs]at h;cases h);(rw[NP]at h;cases h)) N _ _ _ (hS.Dg t) hN
 ·rcases hR with⟨v',h',hR⟩|⟨x,h',_⟩
  ·exact .inl ⟨v',by rw[h'],hR⟩
  ·exact(Dt (h.symm.trans h')).elim
 ·rcases hR with⟨v',h',_⟩|⟨x,h',hR⟩
  ·exact(Dt (h'.symm.trans h)).elim
  ·exact .inr ⟨x,by rw[h'],hR⟩
theorem results_tmp {fn:Func}{i:Nat}(h:fn.results= #[.tmp i])(t:Array Zc)(w:Zb):(results fn t).runT P' w #[]=(.ok (t.getD i Ze) w,#[]):=by
 unfold results;rw[h,Array.mapM_eq_mapM_toList]
 rfl
theorem WO {fn:Func}{i j:Nat}(h:fn.results= #[.tmp i,.tmp j])(t:Array Zc)(w:Zb):(results fn t).runT P' w #[]=(.ok (.tuple #[t.getD i Ze,t.getD j Ze]) w,#[]):=by
 unfold results;rw[h,Array.mapM_eq_mapM_toList]
 rfl
theorem F6.UZ {B:Fj}{ρ:Ren}{fr Bd:ZA}{cs cs':List ZA}(h:F6 P' P B ρ (fr::cs) (Bd::cs'))(hn:cs.length=B.lcs.length):cs=B.lcs∧cs'=B.wV∧G9 P' P B.K ρ fr Bd:=by
 generalize e:fr::cs=M at h;generalize e':Bd::cs'=M' at h;cases h with
 |bot h=>cases e;cases e';exact⟨rfl,rfl,h⟩
 |cons h BI t=>
  cases e;have:=t.deep;simp only[zK]at this hn;omega
theorem U0 (T:Twins P' P)(hd:BL≤P.depth){B:Fj}(hB:B.La)(hl:B.lcs=[CV P'])(hs:B.K.seg=true)(NP:B.top=false){fn:Func}{Y:Array Zc→Zc}(hf:P'.funcs[B.K.fn]?=some fn)(hr:∀t w,(results fn t).runT P' w #[]=(.ok (Y t) w,#[]))
  {args:Array Zc} {w:Zb} {Post:Zc→Zb→Prop} {PostX:List zc→Zb→Prop} (hb:C2 Post) (Hq:C2 PostX)
  (hS:Fe P' P B (AO (Zq P' B.K.fn args .normal) [CV P']) w) (hc:∀t,Calls P' B.K.fn args (tp w t) (eH Post PostX)):Cm P' B true (TP P' B Y Post PostX) (AO (Zq P' B.K.fn args .normal) [CV P']) w:=by
 refine H6 T hd hB (WM hl hb Hq) hS fun t=>?_;obtain⟨N,fe,w',hR,hN⟩:=H9 (hc t);refine H8 T hd hB hl (hR.imp (fun⟨v,h,_⟩=>⟨v,h⟩) fun⟨x,h,_⟩=>⟨x,h⟩) (fun _ _ h=>by rw[hs]at h;cases h) (fun x h=>?_) (fun M fr cs w₁ Kd ha' hM=>?_) N _ _ _ (hS.Dg t) hN
 ·rcases hR with⟨v',h',_⟩|⟨x,h',hR⟩
  ·exact(Dt (h'.symm.trans h)).elim
  ·exact .inr ⟨x,by rw[h'],hR⟩
 obtain⟨ρ,g',w₂,E,⟨eF,eG,Bd,cs',e,rfl,hk⟩,hw,_⟩:=Kd;cases e;have ha:B.K.seg=true∧(AO fr cs).callers.length=B.lcs.length∧(AO fr cs).frame.mode=.run∧(AO fr cs).frame.todo=[]:=ha'.elim id fun x=>by rw[NP]at x;cases x.1
 obtain⟨h1,h2,h3⟩:=hk.UZ ha.2.1;obtain⟨p1,p2,p3,p4⟩:=h3.part hs;have AL:fr.mode=.run:=ha.2.2.1;have eI:fr.todo=[]:=ha.2.2.2;have hcs:cs=[CV P']:=h1.trans hl;subst hcs;have s1:Z6 P' true (AO fr [CV P']) w₁=.go (AO {fr with mode:=.returning} [CV P']) w₁ #[]:=by
  rw[BC.1 AL];exact Gp (by rw[eI];exact .done) p1 (.inl rfl)
 have s2:Z6 P' true (AO {fr with mode:=.returning} [CV P']) w₁=.go (AO ((CV P').finish (Y fr.tmps)) []) w₁ (seen P' fr.fn #[]):=by
  rw[BC.2 (by intro h;cases h)];exact DI (fr:= {fr with mode:=.returning}) p3 rfl h3.kind.1 (by rw[show({fr with mode:=FrameMode.returning}:ZA).fn=fr.fn from rfl,p4];exact hf) (hr _ _)
 rcases KQ (Qn s1) hM with hx|⟨arP,rfl,hy⟩
 ·have:=congrArg List.length (EY hx).2.1
  simp at this
 rcases KQ (Qn s2) hy with hx|⟨aiC,rfl,hz⟩
 ·have:=congrArg List.length (EY hx).2.1
  simp at this
 obtain⟨h4,_,h5⟩:=EY (ZaE (EB Hb) hz);rcases hR with⟨v,h',hR⟩|⟨x,h',_⟩
 ·have hv:Y fr.tmps=v:=LO (h4.trans h')
  refine .inl ⟨ha',h1,?_⟩;show Post (Y fr.tmps) w₁;rw[hv,h5];exact hR
 ·exact(Dt (h4.trans h')).elim
def Er (P':Zp)(B:Fj)(fn:Func)(Post:Zc→Zb→Prop)(PostX:List zc→Zb→Prop)(g:Zg)(w:Zb):Prop:=(BM B g∧g.callers=B.lcs∧∃i,fn.results= #[.tmp i]∧Post (g.frame.tmps.getD i Ze) w∧g.status=.running∧∃es,∀u,Z6 P' true g u=.go (AO ((CV P').finish (g.frame.tmps.getD i Ze)) []) u es)∨IsX P' PostX g w
theorem Iw {B:Fj}{fn:Func}{Post:Zc→Zb→Prop}{PostX:List zc→Zb→Prop}(hl:B.lcs=[CV P'])(hb:C2 Post)(Hq:C2 PostX):C8 P' B m (Er P' B fn Post PostX):=
 ⟨fun _ _ _ h=>h.elim (fun⟨h1,h2,i,h3,h4,h5⟩=>.inl ⟨h1,h2,i,h3,hb _ _ _ h4,h5⟩) fun h=>.inr (h.blind Hq),fun _ _ hx=>.inr (MM hl hx)⟩
theorem WQ (T:Twins P' P)(hd:BL≤P.depth){B:Fj}(hB:B.La)(hl:B.lcs=[CV P'])(NP:B.top=true){f:YT}{fn:Func}{i:Nat}(hf:P'.funcs[f]?=some fn)(hr:fn.results= #[.tmp i])
  {args:Array Zc} {w:Zb} {Post:Zc→Zb→Prop} {PostX:List zc→Zb→Prop} (hb:C2 Post) (Hq:C2 PostX)
  (Hp:B.K.fn=f)
  (hS:Fe P' P B (AO (Zq P' f args .normal) [CV P']) w) (hc:∀t,Calls P' f args (tp w t) (eH Post PostX)):Cm P' B true (Er P' B fn Post PostX) (AO (Zq P' f args .normal) [CV P']) w:=by
 have hs:B.K.seg=false:=(hB.qG NP).1;refine H6 T hd hB (Iw hl hb Hq) hS fun t=>?_;obtain⟨N,fe,w',hR,hN⟩:=H9 (hc t);refine H8 T hd hB hl (hR.imp (fun⟨v,h,_⟩=>⟨v,h⟩) fun⟨x,h,_⟩=>⟨x,h⟩) (fun _ _ _ h=>by rw[NP]at h;cases h) (fun x h=>?_) (fun M fr cs w₁ Kd ha' hM=>?_) N _ _ _ (hS.Dg t) hN
 ·rcases hR with⟨v',h',_⟩|⟨x,h',hR⟩
  ·exact(Dt (h'.symm.trans h)).elim
  ·exact .inr ⟨x,by rw[h'],hR⟩
 obtain⟨ρ,g',w₂,E,⟨eF,eG,Bd,cs',e,rfl,hk⟩,hw,_⟩:=Kd;cases e;have ha:B.top=true∧(AO fr cs).callers.length=B.lcs.length∧(AO fr cs).frame.mode=.returning∧(AO fr cs).frame.defers=[]:=ha'.elim (fun x=>by rw[hs]at x;cases x.1) id;obtain⟨h1,h2,h3⟩:=hk.UZ ha.2.1;have hff:fr.fn=f:=(h3.flat (hB.qG NP).2.1).2.trans Hp;have AL:fr.mode=.returning:=ha.2.2.1;have JP:fr.defers=[]:=ha.2.2.2;have hcs:cs=[CV P']:=h1.trans hl;subst hcs;have s2:∀w₁,Z6 P' true (AO fr [CV P']) w₁=.go (AO ((CV P').finish (fr.tmps.getD i Ze)) []) w₁ (seen P' fr.fn #[]):=fun w₁=>by
  rw[BC.2 (by rw[AL];intro h;cases h)];exact DI JP AL h3.kind.1 (by rw[hff];exact hf) (results_tmp hr _ _)
 rcases KQ (Qn (s2 w₁)) hM with hx|⟨aiC,rfl,hz⟩
 ·have:=congrArg List.length (EY hx).2.1
  simp at this
 obtain⟨h4,_,h5⟩:=EY (ZaE (EB Hb) hz);rcases hR with⟨v,h',hR⟩|⟨x,h',_⟩
 ·have hv:fr.tmps.getD i Ze=v:=LO (h4.trans h')
  refine .inl ⟨ha',h1,i,hr,?_,rfl,_,s2⟩;show Post (fr.tmps.getD i Ze) w₁;rw[hv,h5];exact hR
 ·exact(Dt (h4.trans h')).elim
end
structure DM (S:Nat→Prop)(w w₂:Zb):Prop where
 same:∀b,S b→w₂.heap[b]?=w.heap[b]?
 size:w.heap.size≤w₂.heap.size
 os:w₂.os=w.os
theorem DM.refl (S:Nat→Prop)(w:Zb):DM S w w:=⟨fun _ _=>rfl,Zj _,rfl⟩
theorem DM.trans {S:Nat→Prop}{a b c:Zb}(h:DM S a b)(k:DM S b c):DM S a c:=⟨fun x hx=>(k.same x hx).trans (h.same x hx),Zx h.size k.size,k.os.trans h.os⟩
def Hr (S:Nat→Prop)(w w₁:Zb):Nat→Prop:=fun b=>S b∨(w.heap.size≤b∧b<w₁.heap.size)
def U1 (S Lk:Nat→Prop)(e:ZU):Prop:=
 match e.loc with
 | .cell a=>S a.block∧(e.write=true→¬Lk a.block)
 | .obj r=>S r∧(e.write=true→¬Lk r)
 | .mark .noRoom=>True
 | .output=>True
 |_=>False
structure Lb (S Lk:Nat→Prop)(w w₁:Zb)(es:Array ZU):Prop where
 size:w.heap.size≤w₁.heap.size
 still:∀b,b<w.heap.size→¬S b∨Lk b→w₁.heap[b]?=w.heap[b]?
 os:w₁.os=w.os
 tape:w₁.tape=w.tape
 output:w₁.output=w.output
 evs:∀e∈es,U1 (Hr S w w₁) Lk e
inductive Wa (P:Zp)(m:Bool)(Lk:Nat→Prop)(Stop:(Nat→Prop)→Zg→Zb→Prop):(Nat→Prop)→Zg→Zb→Prop
 |stop {S:Nat→Prop} {g:Zg} {w:Zb} (h:∀w₂,DM S w w₂→Stop S g w₂):Wa P m Lk Stop S g w
 |step {S:Nat→Prop} {g:Zg} {w:Zb} (hs:g.status=.running) (Gr:Zb→Zg) (EC:Zb→Zb) (Ix:Zb→Array ZU)
   (h:∀w₂,DM S w w₂→Z6 P m g w₂=.go (Gr w₂) (EC w₂) (Ix w₂)∧Lb S Lk w₂ (EC w₂) (Ix w₂)) (k:∀w₂,DM S w w₂→Wa P m Lk Stop (Hr S w₂ (EC w₂)) (Gr w₂) (EC w₂)):Wa P m Lk Stop S g w
section
variable {P' P:Zp}{B:Fj}{m m':Bool}{Lk:Nat→Prop}
open Classical in
theorem Wa.WS {Stop:(Nat→Prop)→Zg→Zb→Prop}{S:Nat→Prop}{g:Zg}{w:Zb}(hs:g.status=.running)
  (hx:∀w₂,DM S w w₂→∃AE w₁ es,Z6 P m g w₂=.go AE w₁ es∧Lb S Lk w₂ w₁ es∧Wa P m Lk Stop (Hr S w₂ w₁) AE w₁):Wa P m Lk Stop S g w:=by
 have hy:∀w₂,∃p:Zg×Zb×Array ZU,DM S w w₂→Z6 P m g w₂=.go p.1 p.2.1 p.2.2∧Lb S Lk w₂ p.2.1 p.2.2∧Wa P m Lk Stop (Hr S w₂ p.2.1) p.1 p.2.1:=by
  intro w₂;by_cases h:DM S w w₂
  ·obtain⟨AE,w₁,es,h1,h2,h3⟩:=hx w₂ h
   exact⟨(AE,w₁,es),fun _=>⟨h1,h2,h3⟩⟩
  ·exact⟨(g,w,#[]),fun x=>absurd x h⟩
 refine .step hs (fun w₂=>(ze (hy w₂)).1) (fun w₂=>(ze (hy w₂)).2.1) (fun w₂=>(ze (hy w₂)).2.2) (fun w₂ h=>?_) fun w₂ h=>?_
 ·exact⟨(zl (hy w₂) h).1,(zl (hy w₂) h).2.1⟩
 ·exact(zl (hy w₂) h).2.2
theorem Wa.imp {Stop Stop₂:(Nat→Prop)→Zg→Zb→Prop}{S:Nat→Prop}{g:Zg}{w:Zb}(h:Wa P m Lk Stop S g w)(hi:∀S g w,Stop S g w→Stop₂ S g w):Wa P m Lk Stop₂ S g w:=by
 induction h with
 |stop h=>exact .stop fun w₂ Ce=>hi _ _ _ (h w₂ Ce)
 |step hs Gr EC Ix h _ ih=>exact .step hs Gr EC Ix h ih
def Cn (w:Zb)(b:Nat):Prop:=∃t n,w.shape? b=some (t,n)∧∀off,off<n→w.frozen? ⟨b,off,none⟩=true
theorem bY (w:Zb)(a:Addr):w.frozen? a=w.frozen? ⟨a.block,a.off,none⟩:=rfl
theorem Cn.lt {w:Zb}{b:Nat}(h:Cn w b):b<w.heap.size:=by
 obtain⟨t,n,hs,_⟩:=h;unfold Ys at hs;cases ho:w.heap[b]? with
 |none=>rw[ho]at hs;cases hs
 |some o=>exact(Za.1 ho).1
theorem Fx.locked {ρ σ:Ren}{w w₁ w' w₁':Zb}{d d':Array ZU}(L:Fx ρ σ w w₁ w' w₁' d d'){b:Nat}(h:Cn w b):Cn w₁ b:=by
 have Az:=h.lt;obtain⟨t,n,hs,hf⟩:=h;exact⟨t,n,L.Fc.shape b t n Az hs,fun off ho=>L.Fc.frozen _ Az (hf off ho)⟩
theorem Fx.ic {ρ σ:Ren}{w w₁ w' w₁':Zb}{d d':Array ZU}(L:Fx ρ σ w w₁ w' w₁' d d'){b:Nat}(h:Cn w b){e:ZU}(he:e∈d)(hw:e.write=true):(∀a,e.loc=.cell a→a.block≠b)∧e.loc≠ .obj b:=by
 have Az:=h.lt;obtain⟨t,n,hs,hf⟩:=h;refine⟨fun a ha hb=>?_,fun ho=>?_⟩
 ·subst hb
  obtain⟨h1,h2⟩:=L.Fc.QI e he hw a ha Az;rw[bY,hf _ (h2 t n hs)]at h1;cases h1
 ·have:=L.Fc.kM e he hw b ho Az
  rw[hs]at this;cases this
def Kg (J:Nat→Obj→Prop)(w:Zb)(b:Nat):Prop:=Cn w b∨∃o,J b o∧w.heap[b]?=some o
theorem Fx.bZ {ρ σ:Ren}{w w₁ w' w₁':Zb}{d d':Array ZU}(L:Fx ρ σ w w₁ w' w₁' d d'){b:Nat}{o:Obj}(hq:Quiet o)(Az:b<w.heap.size)(h:w₁.heap[b]?=some o){e:ZU}(he:e∈d)(hw:e.write=true):(∀a,e.loc=.cell a→a.block≠b)∧e.loc≠ .obj b:=by
 obtain⟨h1,h2⟩:=(L.Fc.awake b o hq Az h).2 e he hw;exact⟨fun a ha hb=>h2 a hb ha,h1⟩
structure MN (P' P:Zp)(B:Fj)(J:Nat→Obj→Prop)(ρ₀:Ren)(n₀ n₀':Nat)(Lk:Nat→Prop)(S:Nat→Prop)(ρ:Ren)(g:Zg)(w:Zb)(g':Zg)(w':Zb):Prop where
 env:Env P' P ρ
 le:ρ₀.le ρ
 fresh:∀b c,ρ b=some c→ρ₀ b=some c∨(n₀≤b∧n₀'≤c)
 size:n₀≤w.heap.size∧n₀'≤w'.heap.size
 goes:qF P' P B ρ g g'∨acB B ρ g g'∨eA P' P B ρ g g'
 world:WR ρ w w'
 lock:∀c,Lk c→∃b,ρ b=some c∧Kg J w b
 holds:∀c,S c↔∃b,ρ b=some c
theorem WR.rely {ρ:Ren}{w w' w₂:Zb}(h:WR ρ w w'){S:Nat→Prop}(hS:∀c,S c↔∃b,ρ b=some c)(hr:DM S w' w₂):WR ρ w w₂:=by
 refine⟨fun b c hb=>?_,hr.os.trans h.os⟩;obtain⟨o,o',h1,h2,h3⟩:=h.obj b c hb;exact⟨o,o',h1,by rw[hr.same c ((hS c).2 ⟨b,hb⟩)];exact h2,h3⟩
theorem WR.Du {ρ:Ren}{w w₂:Zb}(h:WR ρ w w₂):Hv ρ (tp w (fun i=>w₂.tape (i - w.drawn+w₂.drawn))) w₂:=
 ⟨h.obj,fun i q=>by show w₂.tape (w.drawn+i - w.drawn+w₂.drawn) q=_;rw[Nat.add_sub_cancel_left,Nat.add_comm],h.os⟩
theorem Cm.tZ {Stop:Zg→Zb→Prop}(K:C8 P' B m Stop){g:Zg}{w:Zb}(h:Cm P' B m Stop g w)(hx:Ha B g∨PZ B g):Stop g w:=by
 rcases K.back g w hx with h'|Kh
 ·exact h'
 ·cases h with
  |stop h=>exact h
  |step hn hr AE w₁ es h k=>
   rcases K.back g (tp w w.tape) hx with h'|Kh
   ·exact h'
   ·exact absurd (h w.tape) (Kh _ _ _)
def t_ (P' P:Zp)(B:Fj)(J:Nat→Obj→Prop)(Stop:Zg→Zb→Prop)(ρ₀:Ren)(n₀ n₀':Nat)(Lk:Nat→Prop)(S:Nat→Prop)(g':Zg)(w':Zb):Prop:=
 ∃ρ g w,Stop g w∧MN P' P B J ρ₀ n₀ n₀' Lk S ρ g w g' w'
def lE (P' P:Zp)(B:Fj)(J:Nat→Obj→Prop)(D:Zg→Zb→Prop)(ρ₀:Ren)(n₀ n₀':Nat)(Lk:Nat→Prop)(S:Nat→Prop)(g':Zg)(w':Zb):Prop:=
 ∃ρ g w t,D g w∧eA P' P B ρ g g'∧MN P' P B J ρ₀ n₀ n₀' Lk S ρ g (tp w t) g' w'
def ua (P' P:Zp)(B:Fj)(J:Nat→Obj→Prop)(D Stop:Zg→Zb→Prop)(ρ₀:Ren)(n₀ n₀':Nat)(Lk:Nat→Prop)(S:Nat→Prop)(g':Zg)(w':Zb):Prop:=
 t_ P' P B J Stop ρ₀ n₀ n₀' Lk S g' w'∨lE P' P B J D ρ₀ n₀ n₀' Lk S g' w'
theorem Cm.Dg {Stop:Zg→Zb→Prop}(hb:∀g w t,Stop g w→Stop g (tp w t)){g:Zg}{w:Zb}(h:Cm P' B m Stop g w)(t:Tape):Cm P' B m Stop g (tp w t):=by
 cases h with
 |stop h=>exact .stop (hb _ _ _ h)
 |step hn hr AE w₁ es h k=>exact .step hn hr AE w₁ es (fun t'=>h t') k
theorem WT {B:Fj}{ρ:Ren}{g g':Zg}(h:qF P' P B ρ g g'):g'.status=.running:=by
 obtain⟨fr,cs,Bd,cs',_,rfl,_⟩:=h
 rfl
theorem Ki (T:Twins P' P)(hd:BL≤P.depth)(hB:B.La){Stop:Zg→Zb→Prop}(K:C8 P' B m Stop){D:Zg→Zb→Prop}(hD:∀g w t AE w₁ es,D g w→¬BM B g→Z6 P' m g (tp w t)=.go AE w₁ es→D AE w₁){J:Nat→Obj→Prop}{ρ₀:Ren}{n₀ n₀':Nat}(hJq:∀b o,J b o→Quiet o∧b<n₀)(hJ:∀g w,D g w→n₀≤w.heap.size→Cm P' B m Stop g w→∀b o,J b o→w.heap[b]?=some o)(hX:∀σ g w,ρ₀.le σ→TL B σ g→¬Stop g w){g:Zg}{w:Zb}(hM:Cm P' B m Stop g w)(Rf:D g w):
  ∀(S:Nat→Prop) (ρ:Ren) (g':Zg) (w':Zb),MN P' P B J ρ₀ n₀ n₀' Lk S ρ g w g' w'→Wa P m' Lk (ua P' P B J D Stop ρ₀ n₀ n₀' Lk) S g' w':=by
 have stop:∀(g:Zg) (w:Zb),Stop g w→∀(S:Nat→Prop) (ρ:Ren) (g':Zg) (w':Zb),MN P' P B J ρ₀ n₀ n₀' Lk S ρ g w g' w'→Wa P m' Lk (ua P' P B J D Stop ρ₀ n₀ n₀' Lk) S g' w':=by
  intro g w h S ρ g' w' H;refine .stop fun w₂ hr=>.inl ⟨ρ,g,w,h,H.env,H.le,H.fresh,⟨H.size.1,Zx H.size.2 hr.size⟩,H.goes,H.world.rely H.holds hr,H.lock,H.holds⟩
 induction hM with
 |stop h=>exact stop _ _ h
 | @step g w hn hrn AE w₁ es h k ih=>
  intro S ρ g' w' H;have ih:=fun t=>ih t (hD _ _ t _ _ _ Rf hn (h t));have hQ:=fun t hz=>hJ _ _ (hD _ _ t _ _ _ Rf hn (h t)) hz (k t);rcases H.goes with hG|hb|JQ
  ·refine Wa.WS (WT hG) fun w₂ hr=>?_
   have hw:=(H.world.rely H.holds hr).Du;generalize ht:(fun i=>w₂.tape (i - w.drawn+w₂.drawn))=t at hw;obtain⟨Bl,DL,tW,hg,hx⟩:=Rb (m:=m) (m':=m') T H.env hd hB hG hn hw (fun o u e=>by rw[h t];intro x;cases x);rw[h t]at hg;cases hg;rcases hx with⟨σ,hle,hl,_⟩|⟨σ,w₁',CZ,Bu,L,hs,hO,_⟩
   ·exact absurd ((k t).tZ K (.inr hl.lost)) (hX σ _ _ (Ren.le_trans H.le hle) hl)
   ·have ub:=hQ t (Zx H.size.1 L.Fc.size)
    have unw:∀ {b:Nat},Kg J w b→∀ {e:ZU},e∈es t→e.write=true→(∀a,e.loc=.cell a→a.block≠b)∧e.loc≠ .obj b:=by
     rintro b (hl|⟨o,ho,_⟩) e he hw
     ·exact L.ic (b:=b) hl he hw
     ·exact L.bZ (hJq b o ho).1 (Zl (hJq b o ho).2 H.size.1) (ub b o ho) he hw
    refine⟨CZ,w₁',Bu,hs,⟨L.Fc.MB,fun b hb hc=>?_,L.Fc.os,L.Fc.tape,L.Fc.output,fun e' he'=>?_⟩,ih t _ σ CZ w₁' ⟨H.env.mono L.le,Ren.le_trans H.le L.le,fun b c JO=>?_,⟨Zx H.size.1 L.Fc.size,Zx H.size.2 (Zx hr.size L.Fc.MB)⟩,hO,L.world,fun c hc=>?_,fun c=>?_⟩⟩
    ·rcases L.Fc.still b hb with x|⟨b₀,h0,x⟩
     ·exact x
     ·exfalso
      rcases hc with hc|hc
      ·exact hc ((H.holds b).2 ⟨b₀,h0⟩)
      ·obtain⟨aiD,h1,h2⟩:=H.lock b hc
       obtain rfl:=ρ.inj _ _ _ h0 h1;rcases x with x|⟨e,he,Qk,⟨a,ha,uc⟩|ho⟩
       ·exact x
       ·exact(unw h2 he Qk).1 a uc ha
       ·exact(unw h2 he Qk).2 ho
    ·obtain⟨e,he,OP⟩:=L.evs.right he'
     have held:∀b c,σ b=some c→Hr S w₂ w₁' c:=by
      intro b c JO;rcases L.Fc.fresh b c JO with x|⟨_,x⟩
      ·exact .inl ((H.holds c).2 ⟨b,x⟩)
      ·exact .inr ⟨x,(L.world.lt JO).2⟩
     have unl:∀b c,σ b=some c→Lk c→Kg J w b:=by
      intro b c JO hc;obtain⟨aiD,h1,h2⟩:=H.lock c hc;obtain rfl:=σ.inj _ _ _ JO (L.le.1 _ _ h1);exact h2
     have acI:=OP.loc;unfold U1;cases hl:e.loc<;>cases JH:e'.loc<;>rw[hl,JH]at acI<;>cases acI
     ·rename_i ha
      exact⟨held _ _ ha.1,fun Qk hc=>(unw (unl _ _ ha.1 hc) he (OP.write▸Qk)).1 _ hl rfl⟩
     ·rename_i ha
      exact⟨held _ _ ha,fun Qk hc=>(unw (unl _ _ ha hc) he (OP.write▸Qk)).2 hl⟩
     ·trivial
     ·rename_i hm
      cases hm;trivial
    ·rcases L.Fc.fresh b c JO with x|⟨x,y⟩
     ·exact H.fresh b c x
     ·exact .inr ⟨Zx H.size.1 x,Zx (Zx H.size.2 hr.size) y⟩
    ·obtain⟨b,h1,h2⟩:=H.lock c hc
     exact⟨b,L.le.1 _ _ h1,h2.elim (fun x=>.inl (L.locked (w:=tp w t) x)) fun⟨o,x,_⟩=>.inr ⟨o,x,ub b o x⟩⟩
    ·constructor
     ·rintro(x|⟨x,y⟩)
      ·obtain⟨b,hb⟩:=(H.holds c).1 x
       exact⟨b,L.le.1 _ _ hb⟩
      ·obtain⟨b,hb,_⟩:=L.Fc.new c x y
       exact⟨b,hb⟩
     ·rintro⟨b,hb⟩
      rcases L.Fc.fresh b c hb with x|⟨_,x⟩
      ·exact .inl ((H.holds c).2 ⟨b,x⟩)
      ·exact .inr ⟨x,(L.world.lt hb).2⟩
  ·obtain⟨_,c,r,c',r',v,v',h1,_,_,h2,_⟩:=hb
   rcases K.back g w (.inl ⟨c,r,v,h1,h2⟩) with h|Kh
   ·exact stop _ _ h S ρ g' w' H
   ·exact absurd (h w.tape) (Kh _ _ _)
  ·refine .stop fun w₂ hr=>.inr ⟨ρ,g,w,w.tape,Rf,JQ,H.env,H.le,H.fresh,⟨H.size.1,Zx H.size.2 hr.size⟩,H.goes,H.world.rely H.holds hr,H.lock,H.holds⟩
theorem LP (T:Twins P' P)(hd:BL≤P.depth)(hB:B.La){Stop:Zg→Zb→Prop}(K:C8 P' B m Stop){J:Nat→Obj→Prop}(hJq:∀b o,J b o→Quiet o)(hJ:∀g w,Stop g w→∀b o,J b o→w.heap[b]?=some o){g:Zg}{w:Zb}(hM:Cm P' B m Stop g w):
  (Fe P' P B g w∨Ha B g∨PZ B g)→∀b o,J b o→b<w.heap.size→w.heap[b]?=some o:=by
 induction hM with
 |stop h=>exact fun _ b o hj _=>hJ _ _ h b o hj
 | @step g w hn _ AE w₁ es h k ih=>
  rintro(hS|hx) b o hj hb
  ·obtain⟨hO,_,_,_,hz,hW⟩:=(hS.Dg w.tape).step T hd hB hn (h w.tape)
   exact hW b o (hJq b o hj) hb (ih w.tape hO b o hj (Zl hb hz))
  ·rcases K.back g w hx with h'|Kh
   ·exact hJ _ _ h' b o hj
   ·exact absurd (h w.tape) (Kh _ _ _)
end
end Go.BK
namespace Go.BK
open Go Go.Conc
open Go.ConcN (sumTo upd sumTo_upd upd_ne upd_same)
section
variable {P:Zp}{Lk:Nat→Prop}{Shun:Loc→Prop}
def GJ (Shun:Loc→Prop)(n:Nat):Prop:=∀l,Shun l→∃a:Addr,l=.cell a∧a.block<n
def GK (Shun:Loc→Prop)(S:Nat→Prop)(n:Nat):Prop:=∀b,S b→b<n∧∀a:Addr,a.block=b→¬Shun (.cell a)
theorem GK.wid {S:Nat→Prop}{w w₁:Zb}(h:GK Shun S w.heap.size)(hs:GJ Shun w.heap.size)(D1:w.heap.size≤w₁.heap.size):GK Shun (Hr S w w₁) w₁.heap.size:=by
 rintro b (hb|⟨h1,h2⟩)
 ·exact⟨Zl (h b hb).1 D1,(h b hb).2⟩
 ·refine⟨h2,fun a ha hx=>?_⟩
  obtain⟨a',e,Az⟩:=hs _ hx;cases e;omega
theorem wY {S:Nat→Prop}{B n:Nat}{e:ZU}(h:U1 S Lk e)(hS:GK Shun S B)(hs:GJ Shun n):EvL Shun B e:=by
 obtain⟨loc,wr,sy⟩:=e;unfold U1 at h;cases loc with
 |cell a=>
  dsimp only at h;obtain⟨h1,h2⟩:=hS _ h.1;refine⟨fun x hx wZ=>?_,by simp,by simp,?_⟩
  ·simp only[ZK,zV,ZI]at hx
   subst hx;exact absurd wZ (h2 a rfl)
  ·simp only[ZK,MemAct.low,Loc.low];exact h1
 |obj r=>
  dsimp only at h;obtain⟨h1,h2⟩:=hS _ h.1;refine⟨fun x hx wZ=>?_,by simp,by simp,?_⟩
  ·obtain⟨a,ha,_⟩:=hs _ wZ
   cases wr<;>cases sy<;>simp[ZK,zV]at hx<;>(subst hx;cases ha)
  ·cases wr<;>cases sy<;>simp[ZK,MemAct.low,Loc.low]<;>exact h1
 |mark m=>
  cases m<;>first|exact h.elim|skip
  refine⟨fun x hx=>by simp[ZK,zV]at hx,by simp,by simp,?_⟩;simp[ZK,MemAct.low]
 |output=>
  refine⟨fun x hx wZ=>?_,by simp,by simp,?_⟩
  ·obtain⟨a,ha,_⟩:=hs _ wZ
   simp only[ZK,zV,ZI]at hx;subst hx;cases ha
  ·simp only[ZK,MemAct.low,Loc.low]
 |_=>exact h.elim
structure LQ (S Lk:Nat→Prop)(w w':Zb)(S':Nat→Prop):Prop where
 size:w.heap.size≤w'.heap.size
 still:∀b,b<w.heap.size→¬S b∨Lk b→w'.heap[b]?=w.heap[b]?
 os:w'.os=w.os
 tape:w'.tape=w.tape
 output:w'.output=w.output
 more:∀b,S' b→S b∨w.heap.size≤b
theorem LQ.refl (S:Nat→Prop)(w:Zb):LQ S Lk w w S:=⟨Zj _,fun _ _ _=>rfl,rfl,rfl,rfl,fun _ h=>.inl h⟩
theorem LQ.step {S S':Nat→Prop}{w w₁ w₂:Zb}{es:Array ZU}(h:Lb S Lk w w₁ es)(k:LQ (Hr S w w₁) Lk w₁ w₂ S'):LQ S Lk w w₂ S':=by
 refine⟨Zx h.size k.size,fun b hb hx=>?_,k.os.trans h.os,k.tape.trans h.tape,k.output.trans h.output,fun b hb=>?_⟩
 ·rw[k.still b (Zl hb h.size) (hx.imp (fun hn x=>x.elim hn (fun y=>by omega)) id)]
  exact h.still b hb hx
 ·rcases k.more b hb with(x|x)|x
  ·exact .inl x
  ·exact .inr x.1
  ·exact .inr (Zx h.size x)
theorem eJ (S:Nat→Prop)(w:Zb)(d:Nat):DM S w (w.at d):=⟨fun _ _=>rfl,Zj _,rfl⟩
theorem Rh {Stop:(Nat→Prop)→Zg→Zb→Prop}{S:Nat→Prop}{a:Zg}{w:Zb}(h:Wa P true Lk Stop S a w):
  ∀(M:Nat) (w₂:Zb) (gs:Array Zg) (sl:Option (Nat×Nat)) (t:YL) (q:Nat→Nat),sumTo gs.size q≤M→DM S w w₂→gs[0]?=some a→Leavers P t gs q→Past Shun w₂.heap.size t→GK Shun S w₂.heap.size→GJ Shun w₂.heap.size→
   ∃(N:Nat) (gs':Array Zg) (a':Zg) (w':Zb) (Iy:Option (Nat×Nat)) (t':YL) (q':Nat→Nat) (S':Nat→Prop),
    runNT P N (Yg gs w₂ sl) t=(.next (Yg gs' w' Iy),t')∧gs'.size=gs.size∧gs'[0]?=some a'∧Stop S' a' w'∧Leavers P t' gs' q'∧Past Shun w'.heap.size t'∧GK Shun S' w'.heap.size∧GJ Shun w'.heap.size∧LQ S Lk w₂ w' S':=by
 induction h with
 | @stop S a w h=>
  intro M w₂ gs sl t q _ hr h0 hL hP hS hs;exact⟨0,gs,a,w₂,sl,t,q,S,rfl,rfl,h0,h w₂ hr,hL,hP,hS,hs,LQ.refl _ _⟩
 | @step S a w Bs Gr EC Ix B3 k ih=>
  intro M
  induction M with
  |zero=>?_
  |succ M ihM=>?_
  all_goals
   intro w₂ gs sl t q hM hr h0 hL hP hS hs;have w_:∀g∈gs,awake g:=by
    intro g hg;obtain⟨i,hi,rfl⟩:=Array.mem_iff_getElem.1 hg;rcases Yr i with rfl|Ff
    ·have:gs[0]=a:=by simpa[ZB hi]using h0
     rw[this];exact awake_of (.inl Bs)
    ·exact awake_of ((hL.old i _ Ff (ZB hi)).status.elim .inl fun x=>.inr (.inr x))
   obtain⟨i,g,d,Iy,hi,hg,Bb⟩:=crowd_pick (P:=P) (w:=w₂) (sl:=sl) w_ ⟨0,a,h0,Bs⟩;have OP:=hr.trans (eJ S w₂ d);rcases Yr i with rfl|Ff
   ·obtain rfl:g=a:=by rw[h0]at hi;exact(Z2 hi).symm
    obtain⟨hgo,hG⟩:=B3 (w₂.at d) OP;have Fl:=runT_crowd_go (P:=P) (sl:=Iy) (i:=0) hi (show Z6 P (0==0) g (w₂.at d)=_ from hgo);have D1:((gs.map (woken P g (Gr (w₂.at d)) (EC (w₂.at d)))).setIfInBounds 0 (Gr (w₂.at d))).size=gs.size:=by simp
    have Az:0<gs.size:=(Za.1 h0).1;have hW:=GK.wid (w:=w₂.at d) hS hs hG.size;have DJ:GJ Shun (EC (w₂.at d)).heap.size:=fun l hl=>by obtain⟨x,e,hx⟩:=hs l hl;exact⟨x,e,Zl hx hG.size⟩
    obtain⟨N,gs',a'',V_,lF,t',q',S',PV,Ny,h0',U2,SJ,hP',hH',xa,hD⟩:=ih (w₂.at d) OP (sumTo ((gs.map (woken P g (Gr (w₂.at d)) (EC (w₂.at d)))).setIfInBounds 0 (Gr (w₂.at d))).size q) (EC (w₂.at d)) ((gs.map (woken P g (Gr (w₂.at d)) (EC (w₂.at d)))).setIfInBounds 0 (Gr (w₂.at d))) Iy (t++ZE 0 g.frame.fn g.frame.place (Ix (w₂.at d))) q (Zj _) (DM.refl _ _) (by simp[Az])
     ⟨fun j x hj hx=>by
      have BI:0≠j:=by omega
      rw[Zk BI,Yi]at hx;obtain⟨y,hy,rfl⟩:=zd.1 hx;have hq:=hL.old j y hj hy;rw[woken_quitsD hq,YN t (by omega) _ (fun op hop=>by obtain⟨e,_,rfl⟩:=ZJ hop;rfl)];exact hq,fun j hj=>by
      rw[YN t (g':=0) (by simp at hj;omega) _ (fun op hop=>by obtain⟨e,_,rfl⟩:=ZJ hop;rfl)];exact hL.above j (by simpa using hj)⟩
     ((hP.mono hG.size).own fun e he=>wY (hG.evs e he) hW hs) hW DJ
    exact⟨N+1,gs',a'',V_,lF,t',q',S',by simp only[runNT,Bb,Fl];exact PV,Ny.trans D1,h0',U2,SJ,hP',hH',xa,LQ.step (w:=w₂) ⟨hG.size,hG.still,hG.os,hG.tape,hG.output,hG.evs⟩ hD⟩
   ·have hq:=hL.old i g Ff hi
    have hi0:(i==0)=false:=by simp;omega
    have Az:i<gs.size:=(Za.1 hi).1;cases lG:q i with
    |zero=>rw[lG]at hq;rw[hq.1]at hg;cases hg
    |succ k'=>
     rw[lG]at hq;rcases hq with⟨hf,_⟩|⟨_,g',es,hm,lH,P2⟩
     ·rw[hf]at hg;cases hg
     have Fl:=runT_crowd_go (P:=P) (sl:=Iy) (i:=i) hi (by rw[hi0];exact lH (w₂.at d));have D1:((gs.map (woken P g g' (w₂.at d))).setIfInBounds i g').size=gs.size:=by simp
     have acJ:sumTo gs.size (upd q i k')+(k'+1)=sumTo gs.size q+k':=by
      have:=sumTo_upd q k' id Az;simpa[lG]using this
     first
     |(exfalso;omega)
     |(obtain⟨N,gs',a'',V_,lF,t',q',S',PV,Ny,h0',U2,SJ,hP',hH',xa,hD⟩:=ihM (w₂.at d) ((gs.map (woken P g g' (w₂.at d))).setIfInBounds i g') Iy (t++ZE i g.frame.fn g.frame.place es) (upd q i k') (by rw[D1];omega) OP (by
         have BI:i≠0:=by omega
         rw[Zk BI,Yi,h0];simp[woken_run Bs])
        ⟨fun j x hj hx=>by
         by_cases Lc:i=j
         ·subst Lc
          rw[Z9 (by simpa using Az)]at hx;obtain rfl:=Z2 hx;rw[upd_same,Deaf_own];exact P2
         ·rw[Zk Lc,Yi]at hx
          obtain⟨y,hy,rfl⟩:=zd.1 hx;have hqj:=hL.old j y hj hy;rw[woken_quitsD hqj,upd_ne q k' (Ne.symm Lc),YN t Lc _ (fun op hop=>by obtain⟨e,_,rfl⟩:=ZJ hop;rfl)];exact hqj,fun j hj=>by
         rw[YN t (g':=i) (by simp at hj;omega) _ (fun op hop=>by obtain⟨e,_,rfl⟩:=ZJ hop;rfl)];exact hL.above j (by simpa using hj)⟩
        (hP.mute (by omega) hm) hS hs
       exact⟨N+1,gs',a'',V_,lF,t',q',S',by simp only[runNT,Bb,Fl];exact PV,Ny.trans D1,h0',U2,SJ,hP',hH',xa,⟨hD.size,hD.still,hD.os,hD.tape,hD.output,hD.more⟩⟩)
end
inductive Cw (P':Zp)(B:Fj)(m:Bool):Zg→Zb→Zg→Zb→Prop
 |one {g:Zg} {w:Zb} {AE:Zg} {w₁:Zb} {es:Array ZU} (t:Tape) (hn:¬BM B g) (h:Z6 P' m g (tp w t)=.go AE w₁ es):Cw P' B m g w AE w₁
 |cons {g:Zg} {w:Zb} {AE:Zg} {w₁:Zb} {Bl:Zg} {w₂:Zb} {es:Array ZU} (t:Tape) (hn:¬BM B g) (h:Z6 P' m g (tp w t)=.go AE w₁ es) (k:Cw P' B m AE w₁ Bl w₂):Cw P' B m g w Bl w₂
section
variable {P' P:Zp}{B:Fj}{m:Bool}{Stop:Zg→Zb→Prop}{Lk:Nat→Prop}
theorem Cm.paths (Kh:∀g w t,Stop g w→¬BM B g→Rc P' m g (tp w t)){C:Zg→Zb→Prop}(hC:∀g w,Cm P' B m Stop g w→(∀Bl w₂,Cw P' B m g w Bl w₂→C Bl w₂)→C g w){g:Zg}{w:Zb}(h:Cm P' B m Stop g w):C g w:=by
 have key:C g w∧∀Bl w₂,Cw P' B m g w Bl w₂→C Bl w₂:=by
  induction h with
  | @stop g w h=>
   have hp:∀Bl w₂,Cw P' B m g w Bl w₂→C Bl w₂:=by
    intro Bl w₂ hp;cases hp with
    |one t hn hx=>exact absurd hx (Kh _ _ t h hn _ _ _)
    |cons t hn hx _=>exact absurd hx (Kh _ _ t h hn _ _ _)
   exact⟨hC _ _ (.stop h) hp,hp⟩
  | @step g w hn hr AE w₁ es h k ih=>
   have hp:∀Bl w₂,Cw P' B m g w Bl w₂→C Bl w₂:=by
    intro Bl w₂ hp;cases hp with
    |one t _ hx=>
     rw[h t]at hx;cases hx;exact(ih t).1
    |cons t _ hx hk=>
     rw[h t]at hx;cases hx;exact(ih t).2 _ _ hk
   exact⟨hC _ _ (.step hn hr AE w₁ es h k) hp,hp⟩
 exact key.1
theorem Cm.path (Kh:∀g w t,Stop g w→¬BM B g→Rc P' m g (tp w t)){g:Zg}{w:Zb}(h:Cm P' B m Stop g w){Bl:Zg}{w₂:Zb}(hp:Cw P' B m g w Bl w₂):Cm P' B m Stop Bl w₂:=by
 have one:∀ {g:Zg} {w:Zb} {AE:Zg} {w₁:Zb} {es:Array ZU} (t:Tape),Cm P' B m Stop g w→¬BM B g→Z6 P' m g (tp w t)=.go AE w₁ es→Cm P' B m Stop AE w₁:=by
  intro g w AE w₁ es t h hn hs;cases h with
  |stop h=>exact absurd hs (Kh _ _ t h hn _ _ _)
  |step hn _ AE w₁ es h k=>
   rw[h t]at hs;cases hs;exact k t
 induction hp with
 |one t hn hs=>exact one t h hn hs
 |cons t hn hs _ ih=>exact ih (one t h hn hs)
theorem LQ.trans {S Fz qJ:Nat→Prop}{w w₁ w₂:Zb}(h:LQ S Lk w w₁ Fz)(k:LQ Fz Lk w₁ w₂ qJ):LQ S Lk w w₂ qJ:=by
 refine⟨Zx h.size k.size,fun b hb hx=>?_,k.os.trans h.os,k.tape.trans h.tape,k.output.trans h.output,fun b hb=>?_⟩
 ·rw[k.still b (Zl hb h.size) (hx.imp (fun hn x=>(h.more b x).elim hn (fun y=>by omega)) id)]
  exact h.still b hb hx
 ·rcases k.more b hb with x|x
  ·exact h.more b x
  ·exact .inr (Zx h.size x)
structure Ctx (P:Zp)(S:Nat→Prop)(g':Zg)(w':Zb)(gs:Array Zg)(t:YL)(q:Nat→Nat)(Shun:Loc→Prop):Prop where
 main:gs[0]?=some g'
 old:Leavers P t gs q
 past:Past Shun w'.heap.size t
 held:GK Shun S w'.heap.size
 WU:GJ Shun w'.heap.size
def lI (P' P:Zp)(B:Fj)(J:Nat→Obj→Prop)(m:Bool)(Stop:Zg→Zb→Prop)(ρ₀:Ren)(n₀ n₀':Nat)(Lk:Nat→Prop):Prop:=
 ∀(S:Nat→Prop) (ρ:Ren) (g:Zg) (w:Zb) (g':Zg) (w':Zb) (gs:Array Zg) (sl:Option (Nat×Nat)) (t:YL) (q:Nat→Nat) (Shun:Loc→Prop),
  eA P' P B ρ g g'→Cm P' B m Stop g w→MN P' P B J ρ₀ n₀ n₀' Lk S ρ g w g' w'→Ctx P S g' w' gs t q Shun→
  ∃(N:Nat) (CI:Array Zg) (CJ:Option (Nat×Nat)) (D2:YL) (Gs:Nat→Nat) (Shun₁:Loc→Prop) (Fz:Nat→Prop) (σ:Ren) (AE:Zg) (w₁:Zb) (CZ:Zg) (w₁':Zb),
   runNT P N (Yg gs w' sl) t=(.next (Yg CI w₁' CJ),D2)∧Cw P' B m g w AE w₁∧MN P' P B J ρ₀ n₀ n₀' Lk Fz σ AE w₁ CZ w₁'∧Ctx P Fz CZ w₁' CI D2 Gs Shun₁∧LQ S Lk w' w₁' Fz
theorem runNT_add (N M:Nat)(x y:Machine)(t u:YL)(h:runNT P N x t=(.next y,u)):runNT P (N+M) x t=runNT P M y u:=by
 induction N generalizing x t with
 |zero=>simp only[runNT]at h;cases h;simp
 |succ N ih=>
  rw[show N+1+M=(N+M)+1 by omega];simp only[runNT]at h⊢;cases hs:stepT P x with
  |mk s ops=>
   rw[hs]at h;cases s with
   |next z=>exact ih _ _ h
   |ended o w=>cases h
theorem Cw.Dg {g:Zg}{w:Zb}{t:Tape}{Bl:Zg}{w₂:Zb}(h:Cw P' B m g (tp w t) Bl w₂):Cw P' B m g w Bl w₂:=by
 cases h with
 |one t' hn h=>exact .one t' hn h
 |cons t' hn h k=>exact .cons t' hn h k
theorem Cw.trans {g AE Bl:Zg}{w w₁ w₂:Zb}(h:Cw P' B m g w AE w₁)(k:Cw P' B m AE w₁ Bl w₂):Cw P' B m g w Bl w₂:=by
 induction h with
 |one t hn h=>exact .cons t hn h k
 |cons t hn h _ ih=>exact .cons t hn h (ih k)
theorem Cw.snoc {g AE Bl:Zg}{w w₁ w₂:Zb}{es:Array ZU}(h:Cw P' B m g w AE w₁)(t:Tape)(hn:¬BM B AE)(k:Z6 P' m AE (tp w₁ t)=.go Bl w₂ es):Cw P' B m g w Bl w₂:=h.trans (.one t hn k)
def Way (P' P:Zp)(B:Fj)(J:Nat→Obj→Prop)(Stop:Zg→Zb→Prop)(ρ₀:Ren)(n₀ n₀':Nat)(Lk:Nat→Prop)(g:Zg)(w:Zb):Prop:=
  ∀(S:Nat→Prop) (ρ:Ren) (g':Zg) (w':Zb) (gs:Array Zg) (sl:Option (Nat×Nat)) (t:YL) (q:Nat→Nat) (Shun:Loc→Prop),MN P' P B J ρ₀ n₀ n₀' Lk S ρ g w g' w'→Ctx P S g' w' gs t q Shun→
   ∃(N:Nat) (CI:Array Zg) (CJ:Option (Nat×Nat)) (D2:YL) (Gs:Nat→Nat) (Shun₁:Loc→Prop) (Fz:Nat→Prop) (CZ:Zg) (w₁':Zb),
    runNT P N (Yg gs w' sl) t=(.next (Yg CI w₁' CJ),D2)∧t_ P' P B J Stop ρ₀ n₀ n₀' Lk Fz CZ w₁'∧Ctx P Fz CZ w₁' CI D2 Gs Shun₁∧LQ S Lk w' w₁' Fz
theorem lJ (T:Twins P' P)(hd:BL≤P.depth)(hB:B.La)(K:C8 P' B m Stop)(Kh:∀g w t,Stop g w→¬BM B g→Rc P' m g (tp w t)){ρ₀:Ren}{n₀ n₀':Nat}{J:Nat→Obj→Prop}{D₀:Zg→Zb→Prop}(ud:∀g w t AE w₁ es,D₀ g w→¬BM B g→Z6 P' m g (tp w t)=.go AE w₁ es→D₀ AE w₁)(hJq:∀b o,J b o→Quiet o∧b<n₀)
  (hJ:∀g w,D₀ g w→n₀≤w.heap.size→Cm P' B m Stop g w→∀b o,J b o→w.heap[b]?=some o) (hX:∀σ g w,ρ₀.le σ→TL B σ g→¬Stop g w) (SP:lI P' P B J m Stop ρ₀ n₀ n₀' Lk) {g:Zg} {w:Zb} (hM:Cm P' B m Stop g w):
  D₀ g w→Way P' P B J Stop ρ₀ n₀ n₀' Lk g w:=by
 have path:∀ {g:Zg} {w:Zb} {Bl:Zg} {w₂:Zb},Cw P' B m g w Bl w₂→D₀ g w→D₀ Bl w₂:=by
  intro g w Bl w₂ h
  induction h with
  |one t hn hs=>exact fun x=>ud _ _ t _ _ _ x hn hs
  |cons t hn hs _ ih=>exact fun x=>ih (ud _ _ t _ _ _ x hn hs)
 refine Cm.paths (C:=fun g w=>D₀ g w→Way P' P B J Stop ρ₀ n₀ n₀' Lk g w) Kh ?_ hM;intro g w hM hp Rf S ρ g' w' gs sl t q Shun H X;have hR:=Ki (m':=true) T hd hB K (D:=fun Bl w₂=>(Bl=g∧w₂=w)∨Cw P' B m g w Bl w₂) (by
  rintro Bl w₂ t xc DL es (⟨rfl,rfl⟩|h) hn hs
  ·exact .inr (.one t hn hs)
  ·exact .inr (h.snoc t hn hs)) hJq (fun Bl w₂ h=>hJ Bl w₂ (h.elim (fun e=>by rw[e.1,e.2];exact Rf) fun h=>path h Rf)) hX hM (.inl ⟨rfl,rfl⟩) S ρ g' w' H
 obtain⟨N,CI,a',w₁,CJ,D2,Gs,Fz,hr,_,h0,B3,hL,hP,hH,hSh,hDn⟩:=Rh hR (sumTo gs.size q) w' gs sl t q (Zj _) (DM.refl _ _) X.main X.old X.past X.held X.WU;have acL:Ctx P Fz a' w₁ CI D2 Gs Shun:=⟨h0,hL,hP,hH,hSh⟩;rcases B3 with B3|⟨acM,Bl,w₂,Hs,Hx,JQ,aiJ⟩
 ·exact⟨N,CI,CJ,D2,Gs,Shun,Fz,a',w₁,hr,B3,acL,hDn⟩
 ·obtain⟨LR,Iz,Dy,lK,S0,qK,qJ,σ,xc,DL,acN,lB,Fo,ue,aiK,aiL,WV⟩:=SP Fz acM Bl (tp w₂ Hs) a' w₁ CI CJ D2 Gs Shun JQ ((Hx.elim (fun⟨e1,e2⟩=>by rw[e1,e2];exact hM) (hM.path Kh)).Dg K.blind Hs) aiJ acL
  have lL:Cw P' B m g w xc DL:=by
   rcases Hx with⟨rfl,rfl⟩|h
   ·exact ue.Dg
   ·exact h.trans ue.Dg
  obtain⟨ie,WX,WY,lM,qL,qM,aiM,acO,acP,Rj,xd,aiN,acQ⟩:=hp xc DL lL (path lL Rf) qJ σ acN lB Iz Dy lK S0 qK aiK aiL;refine⟨N+(LR+ie),WX,WY,lM,qL,qM,aiM,acO,acP,?_,xd,aiN,(hDn.trans WV).trans acQ⟩;rw[runNT_add _ _ _ _ _ _ hr,runNT_add _ _ _ _ _ _ Fo];exact Rj
end
end Go.BK
namespace Go.BK
open Go Go.Conc
structure Cg (w w':Zb):Prop where
 size:w'.heap.size=w.heap.size
 same:∀(b:Nat) (c:Array Zc) (e:Zs) (f:Nat×Nat),w'.heap[b]?=some (Obj.cells c e f)↔w.heap[b]?=some (Obj.cells c e f)
theorem Cg.refl (w:Zb):Cg w w:=⟨rfl,fun _ _ _ _=>Iff.rfl⟩
theorem Cg.trans {a b c:Zb}(h:Cg a b)(k:Cg b c):Cg a c:=⟨k.size.trans h.size,fun x y z u=>(k.same x y z u).trans (h.same x y z u)⟩
structure Rk (P':Zp)(ρ:Ren)(fr:ZA):Prop where
 fn:∃f,P'.funcs[fr.fn]?=some f
 defers:∀d∈fr.defers,∃b b' a,ρ b=some b'∧d= {target:=.collected b,args:=a}
def DW (ρ:Ren)(w:Zb):Prop:=∀b b',ρ b=some b'→∀ds,w.heap[b]?=some (.deferred (some ds))→ds=[]
section
variable {P' P:Zp}{B:Fj}{m:Bool}{Stop:Zg→Zb→Prop}{ρ:Ren}
theorem MO {w:Zb}{b:Nat}{ds:List Deferred}(h:w.heap[b]?=some (.deferred (some ds))):
  (Yj b).runT P' w #[]=(.ok ds {w with heap:=w.heap.setIfInBounds b (.deferred none)},#[⟨.obj b,false,false⟩,⟨.obj b,true,false⟩]):=by
 unfold Yj;simp[-Z5,bind,Sem.bind,getObj,setObj,ZF,h,pure,Obj.isChan]
theorem NS {w:Zb}{b:Nat}(h:∀ds,w.heap[b]?≠some (.deferred (some ds))):∃x u es,(Yj b).runT P' w #[]=(.halt x u,es):=by
 unfold Yj;cases ho:w.heap[b]? with
 |none=>exact⟨_,_,_,by simp[-Z5,bind,Sem.bind,getObj,ZF,ho];exact⟨⟨rfl,rfl⟩,rfl⟩⟩
 |some o=>
  cases o with
  |deferred d=>
   cases d with
   |some ds=>exact absurd ho (h ds)
   |none=>exact⟨_,_,_,by simp[-Z5,bind,Sem.bind,getObj,ZF,ho,stuck];exact⟨⟨rfl,rfl⟩,rfl⟩⟩
  |_=>exact⟨_,_,_,by simp[-Z5,bind,Sem.bind,getObj,ZF,ho,stuck];exact⟨⟨rfl,rfl⟩,rfl⟩⟩
theorem Cm.one (Kh:∀g w t,Stop g w→¬BM B g→Rc P' m g (tp w t)){g:Zg}{w:Zb}{AE:Zg}{w₁:Zb}{es:Array ZU}(t:Tape)(h:Cm P' B m Stop g w)(hn:¬BM B g)(hs:Z6 P' m g (tp w t)=.go AE w₁ es):Cm P' B m Stop AE w₁:=
 h.path Kh (.one t hn hs)
theorem raise_mode (c:ZA)(x:List zc):∃y,(c.raise x).mode=.panicking (x++y)∧c.raise x= {c with mode:=.panicking (x++y)}:=by
 obtain⟨fn,tmps,todo,defers,mode,kind,ro⟩:=c;cases mode with
 |run=>exact⟨[],by simp[ZaN],by simp[ZaN]⟩
 |returning=>exact⟨[],by simp[ZaN],by simp[ZaN]⟩
 |panicking z=>exact⟨z,by simp[ZaN],by simp[ZaN]⟩
theorem FV {fr:ZA}{cs:List ZA}{x:List zc}(h:fr.mode=.panicking x):¬BM B (AO fr cs):=by
 rintro(⟨_,_,h1,_⟩|⟨_,_,h1,_⟩)<;>(have h2:fr.mode=_:=h1;rw[h]at h2;cases h2)
theorem WZ (K:C8 P' B m Stop)(Kh:∀g w t,Stop g w→¬BM B g→Rc P' m g (tp w t))(hl:B.lcs=[CV P'])(qN:∀(fr:ZA) cs w x,fr.mode=.panicking x→cs≠ []→¬Stop (AO fr cs) w):∀(L:List ZA) (fr:ZA) (w:Zb) (x:List zc),fr.mode=.panicking x→Rk P' ρ fr→(∀c∈L,Rk P' ρ c)→DW ρ w→
  Cm P' B m Stop (AO fr (L++ [CV P'])) w→∃w' y,Cg w w'∧Stop (AO ((CV P').raise (x++y)) []) w':=by
 intro L
 induction L with
 |nil=>?_
 |cons c L ih=>?_
 all_goals
  intro fr;obtain⟨fn,tmps,todo,defers,mode,kind,ro⟩:=fr
  induction defers with
  |nil=>?_
  |cons d ds ihd=>?_
 case nil.nil=>
  intro w x hm hf _ _ hM;dsimp only at hm;subst hm;obtain⟨f,Hp⟩:=hf.fn;have hs:∀u,Z6 P' m (AO {fn:=fn,tmps:=tmps,todo:=todo,defers:=[],mode:=.panicking x,kind:=kind,roundOf:=ro} ([]++ [CV P'])) u=.go (AO ((CV P').raise x) []) u #[]:=fun u=>by
   rw[BC.2 (by intro h;cases h)];exact CU rfl rfl Hp
  have hM':=hM.one Kh w.tape (FV rfl) (hs _);exact⟨w,[],Cg.refl w,by rw[List.append_nil];exact hM'.tZ K (.inr ⟨_,_,_,hl,rfl⟩)⟩
 case cons.nil=>
  intro w x hm hf hL hD hM;dsimp only at hm;subst hm;obtain⟨f,Hp⟩:=hf.fn;have hs:∀u,Z6 P' m (AO {fn:=fn,tmps:=tmps,todo:=todo,defers:=[],mode:=.panicking x,kind:=kind,roundOf:=ro} ((c::L)++ [CV P'])) u=.go (AO (c.raise x) (L++ [CV P'])) u #[]:=fun u=>by
   rw[BC.2 (by intro h;cases h)];exact CU rfl rfl Hp
  have hM':=hM.one Kh w.tape (FV rfl) (hs _);obtain⟨y,h1,h2⟩:=raise_mode c x;have hc:=hL c (by simp);obtain⟨w',z,h3,h4⟩:=ih (c.raise x) w (x++y) h1 (by rw[h2];exact⟨hc.fn,hc.defers⟩) (fun c' NT=>hL c' (by simp[NT])) hD hM';exact⟨w',y++z,h3,by rw[←ZaQ];exact h4⟩
 all_goals
  intro w x hm hf hL hD hM;dsimp only at hm;subst hm;obtain⟨b,b',a,hb,rfl⟩:=hf.defers d (by simp);by_cases hds:∃l,w.heap[b]?=some (.deferred (some l))
  ·obtain⟨l,JH⟩:=hds
   obtain rfl:=hD b b' hb l JH;refine(?_:∃w' y,Cg w w'∧Stop (AO ((CV P').raise (x++y)) []) w');have Bs:=MO (P':=P') JH;have hM':=hM.one Kh w.tape (FV rfl) (by
    rw[BC.2 (by intro h;cases h)];exact Ed rfl Bs)
   have acT:b<w.heap.size:=(Za.1 JH).1;have hcs:Cg w {w with heap:=w.heap.setIfInBounds b (.deferred none)}:=by
    refine⟨by simp,fun k c e f=>?_⟩;by_cases hk:b=k
    ·subst hk
     rw[JH];simp[acT]
    ·simp[Zk hk]
   have hD':DW ρ {w with heap:=w.heap.setIfInBounds b (.deferred none)}:=by
    intro k k' hk l U3;by_cases he:b=k
    ·subst he
     simp[acT]at U3
    ·exact hD k k' hk l (by simpa[Zk he]using U3)
   obtain⟨w',y,h3,h4⟩:=ihd {w with heap:=w.heap.setIfInBounds b (.deferred none)} x rfl ⟨hf.fn,fun d hd=>hf.defers d (by simp at hd⊢;exact .inr hd)⟩ hL hD' hM';exact⟨w',y,hcs.trans h3,h4⟩
  ·exfalso
   obtain⟨e,u,es,Bs⟩:=NS (P':=P') (w:=w) (b:=b) (fun ds hx=>hds ⟨ds,hx⟩);cases hM with
   |stop h=>
    exact qN _ _ _ x rfl (by simp) h
   |step hn _ AE w₁ aou h k=>
    obtain⟨o,u2,e3,he⟩:=DK (Q:=P') (m:=m) (fr:= {fn:=fn,tmps:=tmps,todo:=todo,defers:= {target:=.collected b,args:=a}::ds,mode:=.panicking x,kind:=kind,roundOf:=ro}) (cs:=_) rfl Bs;have:=h w.tape;rw[BC.2 (by intro h;cases h)]at this;exact absurd this (by rw[show tp w w.tape=w from rfl,he];intro h;cases h)
end
end Go.BK
namespace Go.BK
open Go
def Zv (v:Zc):Prop:=∀ρ:Ren,VR ρ v v
theorem b8 {cs:Array Zc}(h:∀x∈cs,Zv x):Zv (.agg cs):=fun ρ=>.agg rfl fun i v v' hv gM=>by
 rw[hv]at gM;cases gM;exact h v (zM hv) ρ
theorem W_ {v:Zc}(h:Zv v):∀x∈v.cells,Zv x:=by
 intro x hx ρ;have hr:=h ρ;cases v with
 |agg cs=>
  have hx:x∈cs:=hx;obtain⟨i,hi⟩:=Array.mem_iff_getElem?.1 hx;cases hr with
  |agg hc JN=>exact JN i x x hi hi
 |_=>
  have hx:x∈#[_]:=hx;rw[Array.mem_singleton]at hx;subst hx;exact hr
theorem ig {α σ:Type}{I:σ→Prop}{f:α→σ→Option (ForInStep σ)}(hf:∀x s r,I s→f x s=some r→I r.value):∀(l:List α) (s r:σ),I s→forIn l s f=some r→I r:=by
 intro l
 induction l with
 |nil=>intro s r hs h;cases h;exact hs
 |cons x l ih=>
  intro s r hs h;rw[List.forIn_cons]at h;simp only[bind,ZP]at h;obtain⟨q,hq,h⟩:=h;have:=hf x s q hs hq;cases q with
  |done b=>cases h;exact this
  |yield b=>exact ih b r this h
theorem Xa {info:Zs→Option TypeInfo}(hi:∀t i v,info t=some i→i.zero=some v→Zv v){fs:Array Field}{i:TypeInfo}(h:Made.reckonStruct info fs=some i){v:Zc}(hv:i.zero=some v):Zv v:=by
 unfold Made.reckonStruct at h;simp only[bind,ZP,pure]at h;obtain⟨a,ha,h⟩:=h;rw[←YV]at ha;have hI:=ig (I:=fun s:Array Field×Nat×Nat×Nat×Nat×Bool×Bool×Option (Array Zc)×String=>∀z,s.2.2.2.2.2.2.2.1=some z→∀x∈z,Zv x) (fun f s r hs h=>?_) _ _ _ (fun z hz=>by cases hz;intro x hx;simp at hx) ha
 ·have hz:∀z,i.zero=some z→∃cs,a.2.2.2.2.2.2.2.1=some cs∧z=.agg cs:=by
   intro z hz;split at h<;>(cases h;simpa[eq_comm]using hz)
  obtain⟨cs,h1,rfl⟩:=hz v hv;exact b8 (hI cs h1)
 ·obtain⟨j,hj,h⟩:=ZP.1 h
  have key:∀z,(s.2.2.2.2.2.2.2.1.bind fun a=>j.zero.bind fun b=>some (a++b.cells))=some z→∀x∈z,Zv x:=by
   intro z hz;obtain⟨a,ha,hz⟩:=ZP.1 hz;obtain⟨b,hb,hz⟩:=ZP.1 hz;cases hz;intro x hx;rcases Zaw.1 hx with hx|hx
   ·exact hs a ha x hx
   ·exact W_ (hi _ _ _ hj hb) x hx
  repeat' split at h
  all_goals simp only[ZP,ZI,reduceCtorEq,false_and,exists_const,and_false]at h
  all_goals first
   |exact h.elim
   |(obtain⟨_,_,h⟩:=h
     subst h
     first
      |exact fun z hz=>key z hz
      |exact fun z hz=>by cases hz)
theorem ij {info:Zs→Option TypeInfo}(hi:∀t i v,info t=some i→i.zero=some v→Zv v){d:TypeDesc}{i:TypeInfo}(h:Made.reckon info d=some i){v:Zc}(hv:i.zero=some v):Zv v:=by
 unfold Made.reckon at h;cases d with
 |struct fs=>exact Xa hi h hv
 |pointer e=>
  simp only[bind,ZP]at h;obtain⟨j,hj,h⟩:=h;have:v=.pointer none:=by
   repeat' split at h
   all_goals simp only[pure,ZP,ZI,reduceCtorEq]at h
   all_goals first
    |(obtain⟨_,_,h⟩:=h;subst h;simpa[Made.word,eq_comm]using hv)
    |exact h.elim
  subst this;exact fun ρ=>.pointer trivial
 |slice e=>
  simp only[bind,pure,ZP,ZI]at h;obtain⟨_,_,_,_,h⟩:=h;subst h;simp only[Made.word,ZI]at hv;subst hv;exact fun ρ=>.slice 0 0 trivial
 |map k e=>
  simp only[bind,pure,ZP,ZI]at h;obtain⟨_,_,_,_,_,_,_,_,h⟩:=h;subst h;simp only[Made.word,ZI]at hv;subst hv;exact fun ρ=>.map trivial
 |chan dir e=>
  simp only[bind,pure,ZP,ZI]at h;obtain⟨_,_,_,_,h⟩:=h;subst h;simp only[Made.word,ZI]at hv;subst hv;exact fun ρ=>.chan trivial
 |func ps rs va=>
  simp only[bind,pure,ZP,ZI]at h;obtain⟨_,_,h⟩:=h;subst h;simp only[Made.word,ZI]at hv;subst hv;exact fun ρ=>.nilFunc
 |array n e=>
  simp only[bind,pure,ZP,ZI]at h;obtain⟨j,hj,_,_,h⟩:=h;subst h;dsimp only at hv;split at hv
  ·cases hv
  ·split at hv
   ·cases hv
    exact b8 fun x hx=>by simp at hx
   ·rw[zd]at hv
    obtain⟨z,hz,rfl⟩:=hv;refine b8 fun x hx=>?_;rw[Array.mem_flatten]at hx;obtain⟨cs,hcs,hx⟩:=hx;rw[Array.mem_replicate]at hcs;rw[hcs.2]at hx;exact W_ (hi _ _ _ hj hz) x hx
 |_=>cases h
theorem Xb {T:Tables}(hz:∀(t:Nat) (i:TypeInfo) (v:Zc),T.types[t]?=some i→i.zero=some v→Zv v):∀(n:Nat) t i v,Made.infoAt T n t=some i→i.zero=some v→Zv v:=by
 intro n
 induction n with
 |zero=>intro t i v h;cases h
 |succ n ih=>
  intro t i v h hv;unfold Made.infoAt at h;split at h
  ·exact hz _ _ _ h hv
  ·obtain⟨d,_,h⟩:=ZP.1 h
   exact ij ih h hv
theorem ik {T:Tables}(hz:∀(t:Nat) (i:TypeInfo) (v:Zc),T.types[t]?=some i→i.zero=some v→Zv v)(t:Zs)(i:TypeInfo)(v:Zc)(h:T.info? t=some i)(hv:i.zero=some v):Zv v:=by
 unfold Tables.info? at h;split at h
 ·exact hz _ _ _ h hv
 ·exact Xb hz _ _ _ _ h hv
theorem Xc {P' P:Zp}(ht:P'.toTables=P.toTables)(hz:P.types.all (fun i=>i.zero.all (OX 8))=true)(hl:(P.info? 0).all (fun i=>(i.methods.find? (fun m=>m.name== "")).isNone)=true):Twins P' P where
 tables:=ht
 lack i hi:=by
  rw[hi]at hl;simpa using hl
 zero t i v hi hv:=ik (T:=P.toTables) (fun t i v h hv ρ=>by
  have hm:=Yc.1 hz i (zM h);rw[hv]at hm;exact KP 8 hm) t i v hi hv
end Go.BK
namespace Go.BK
open Go
open Classical in
noncomputable def H_:Obj→Obj
 | .cells c e f=>.cells c e (min 0 f.1,max c.size f.2)
 |o=>if OM o=true then .coro none else o
noncomputable def Xd (w:Zb):Zb:= {w with heap:=w.heap.map H_}
theorem Qo (w:Zb)(b:Nat):(Xd w).heap[b]?=(w.heap[b]?).map H_:=by
 unfold Xd;simp
theorem lN (w:Zb):(Xd w).heap.size=w.heap.size:=by
 unfold Xd;simp
theorem b9 {w:Zb}{b:Nat}{t:Zs}{n:Nat}(h:w.shape? b=some (t,n)):Cn (Xd w) b:=by
 unfold Ys at h;cases ho:w.heap[b]? with
 |none=>rw[ho]at h;cases h
 |some o=>
  rw[ho]at h;cases o with
  |cells c e f=>
   have hg:(Xd w).heap[b]?=some (.cells c e (min 0 f.1,max c.size f.2)):=by rw[Qo,ho];rfl
   refine⟨e,c.size,by unfold Ys;rw[hg],fun off aiO=>?_⟩;clear h;unfold Yu;rw[hg];simp;omega
  |_=>cases h
theorem lO {ρ:Ren}{w w':Zb}(h:WR ρ w w'){b c:Nat}(hb:ρ b=some c):Cn (Xd w) b∨∃o,Quiet o∧(Xd w).heap[b]?=some o:=by
 obtain⟨o,o',h1,h2,h3⟩:=h.obj b c hb;have hg:(Xd w).heap[b]?=some (H_ o):=by rw[Qo,h1];rfl
 cases h3 with
 | @cells c c' e f f' hv hf=>exact .inl (b9 (t:=e) (n:=c.size) (by unfold Ys;rw[h1]))
 |number lost h=>exact .inr ⟨_,.number _ _,hg⟩
 |junk h=>exact .inr ⟨_,.coro,hg⟩
 |_=>exact .inr ⟨_,.coro,hg⟩
theorem lP (w:Zb)(a:Addr):(Xd w).cell? a=w.cell? a:=by
 unfold zJ;rw[Qo];cases w.heap[a.block]? with
 |none=>rfl
 |some o=>cases o<;>first|rfl|(show(match some (H_ _) with|some (.cells c _ _)=>_|_=>none)=_;unfold H_;split<;>rfl)
end Go.BK
namespace Go.BK
open Go
def Ey (w:Zb)(o:Obj):Zb:= {w with heap:=w.heap.push o}
theorem Hy (w:Zb)(o:Obj){b:Nat}(h:b<w.heap.size):(Ey w o).heap[b]?=w.heap[b]? :=by
 unfold Ey;simp only;rw[Array.getElem?_push_lt h,ZB h]
theorem Hz (w:Zb)(o:Obj):(Ey w o).heap[w.heap.size]?=some o:=by
 unfold Ey;simp
theorem U4 (w:Zb)(o:Obj):(Ey w o).heap.size=w.heap.size+1:=by
 unfold Ey;simp
theorem U5 {ρ:Ren}{w w':Zb}(h:WR ρ w w'){c:Nat}(hc:ρ.PT w.heap.size c):ρ.le (ρ.ext w.heap.size c hc):=by
 refine⟨fun b d hb=>?_,rfl,rfl,rfl⟩;have:=(h.lt hb).1;show(if b=w.heap.size then some c else ρ b)=some d;rw[if_neg (by omega)];exact hb
theorem WR.push {ρ:Ren}{w w':Zb}(h:WR ρ w w'){c:Nat}(hc:ρ.PT w.heap.size c){o o':Obj}(py:w'.heap[c]?=some o')(hO:OR (ρ.ext w.heap.size c hc) o o'):WR (ρ.ext w.heap.size c hc) (Ey w o) w':=by
 refine⟨fun b d hb=>?_,h.os⟩;have GL:(if b=w.heap.size then some c else ρ b)=some d:=hb;split at GL
 ·next e=>
  cases GL;subst e;exact⟨o,o',Hz w o,py,hO⟩
 ·obtain⟨p,p',h1,h2,h3⟩:=h.obj b d GL
  exact⟨p,p',by rw[Hy w o (h.lt GL).1];exact h1,h2,h3.mono (U5 h hc)⟩
theorem Xe {w:Zb}{o:Obj}{b:Nat}(h:Cn w b):Cn (Ey w o) b:=by
 have Az:=h.lt;have he:=Hy w o Az;obtain⟨t,n,h1,h2⟩:=h;refine⟨t,n,?_,fun off ho=>?_⟩
 ·unfold Ys at*
  rw[he];exact h1
 ·have:=h2 off ho
  unfold Yu at*;rw[he];exact this
end Go.BK
namespace Go.BK
open Go Go.Conc
section
variable {P':Zp}{B:Fj}{Stop:Zg→Zb→Prop}
structure NU (P':Zp)(B:Fj)(Stop:Zg→Zb→Prop):Prop where
 fin:∀g w,Stop g w→BM B g→g.status=.running∧∃v es,∀u,Z6 P' true g u=.go (AO ((CV P').finish v) []) u es
 out:∀g w,Stop g w→¬BM B g→∃fr,g=AO fr []∧∀u,∃o u' e,Z6 P' true g u=.ended o u' e
theorem NU.Kh (K:NU P' B Stop):∀g w t,Stop g w→¬BM B g→Rc P' true g (tp w t):=fun g w t h hn=>
 let⟨_,_,h⟩:=K.out g w h hn
 H7 (h (tp w t))
theorem Rm {g g':Zg}{w w':Zb}(h:solo g w=solo g' w'):g=g'∧w=w':=by
 unfold solo at h;simp at h;exact⟨h.2,h.1⟩
theorem Ia (K:NU P' B Stop){ge:Zg}{we:Zb}(h2:∀v,ge≠AO ((CV P').finish v) []):∀(N:Nat) (g:Zg) (w:Zb),Cm P' B true Stop g w→runN P' N (solo g w)=.next (solo ge we)→(g=ge∧w=we)∨Cw P' B true g w ge we:=by
 intro N
 induction N with
 |zero=>
  intro g w _ h;exact .inl (Rm (by simpa[runN]using h))
 |succ N ih=>
  intro g w hM h;cases hM with
  |stop hs=>
   by_cases ha:BM B g
   ·obtain⟨hr,v,es,hgo⟩:=K.fin g w hs ha
    have Bb:=step_solo_go hr (hgo w);have h':runN P' N (lone ((CV P').finish v) [] w)=.next (solo ge we):=by
     have:=h;simp only[runN,Bb]at this;exact this
    have h3:=ZaE (EB Hb) h';exact absurd (Rm (show solo (AO ((CV P').finish v) []) w=solo ge we from h3)).1.symm (h2 v)
   ·obtain⟨fr,rfl,he⟩:=K.out g w hs ha
    have h':runN P' (N+1) (lone fr [] w)=.next (solo ge we):=h;have h3:=ZaE (EB (he w)) h';exact .inl (Rm (show solo (AO fr []) w=solo ge we from h3))
  |step hn hr AE w₁ es h' k=>
   have hgo:Z6 P' true g w=.go (AE w.tape) (w₁ w.tape) (es w.tape):=h' w.tape;have Bb:=step_solo_go hr hgo;have h3:runN P' N (solo (AE w.tape) (w₁ w.tape))=.next (solo ge we):=by
    have:=h;simp only[runN,Bb]at this;exact this
   rcases ih _ _ (k w.tape) h3 with⟨e1,e2⟩|hp
   ·refine .inr ?_
    rw[←e1, ←e2];exact .one w.tape hn (h' w.tape)
   ·exact .inr (.cons w.tape hn (h' w.tape) hp)
theorem Rn (K:NU P' B Stop){f:YT}{args:Array Zc}{c:ZA}{cs:List ZA}{w:Zb}{Post:Zc→Zb→Prop}{PostX:List zc→Zb→Prop}
  (hc:cs≠ []) (hM:Cm P' B true Stop (AO (Zq P' f args .normal) (c::cs)) w) (h:Calls P' f args w (eH Post PostX)):
  (∃v w₁,Post v w₁∧Cw P' B true (AO (Zq P' f args .normal) (c::cs)) w (AO (c.finish v) cs) w₁)∨∃x w₁,PostX x w₁∧Cw P' B true (AO (Zq P' f args .normal) (c::cs)) w (AO (c.raise x) cs) w₁:=by
 have BI:∀(g:Zg) fr,g=AO fr cs→AO (Zq P' f args .normal) (c::cs)≠g:=by
  rintro _ fr rfl hx;have:=congrArg (fun g:Zg=>g.callers.length) hx;simp[AO]at this
 obtain⟨e,w',fr,hR,qI,_,wX⟩:=h (c::cs);cases e with
 |returned v=>
  obtain⟨N,hN⟩:=Steps.trans (show Steps P' _ _ from qI) (Steps.one (step_leave_returned wX));refine .inl ⟨v,w',hR,?_⟩;have k2:∀v',AO (c.finish v) cs≠AO ((CV P').finish v') []:=fun v' hx=>hc (congrArg Goroutine.callers hx);rcases Ia K k2 N _ _ hM hN with⟨e1,_⟩|hp
  ·exact absurd e1 (BI _ _ rfl)
  ·exact hp
 |panicked x=>
  obtain⟨N,hN⟩:=Steps.trans (show Steps P' _ _ from qI) (Steps.one (step_leave_panicked wX));refine .inr ⟨x,w',hR,?_⟩;have k2:∀v',AO (c.raise x) cs≠AO ((CV P').finish v') []:=fun v' hx=>hc (congrArg Goroutine.callers hx);rcases Ia K k2 N _ _ hM hN with⟨e1,_⟩|hp
  ·exact absurd e1 (BI _ _ rfl)
  ·exact hp
 |outgrown=>exact hR.elim
end
end Go.BK
