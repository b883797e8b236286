/- Part of a proof. -/
import Derived.Test.YtkkjobdfheidkaaGreatDoorQ02
set_option maxRecDepth 100000
set_option maxHeartbeats 6400000
open Array renaming getElem?_eq_getElem→ZB,getElem?_eq_some_iff→Za,getElem?_map→Yi
open Classical renaming choose→ze,choose_spec→zl
open Go renaming Value→Zc,undef→Ze,World→Zb,FuncId→YT,Program→Zp,Goroutine→Zg,Event→ZU,stepG→Z6,Frame→ZA,PanicEntry→zc
open Go.Frame renaming enter→Zq
open Go.World renaming shape?→Ys,frozen?→Yu,cell?→zJ
open List renaming length_nil→zY,length_cons→zK,mem_cons_self→zF,mem_cons_of_mem→zr,append_assoc→ZaQ
open Nat renaming le_trans→Zx,le_refl→Zj,lt_of_lt_of_le→Zl
open Option.some renaming injEq→ZI
namespace Go.BK
open Go Go.Conc
theorem AR.fun {σ:Ren}{a x y:Addr}(h:AR σ a x)(k:AR σ a y):x=y:=by
 obtain⟨h1,h2,h3⟩:=h;obtain⟨k1,k2,k3⟩:=k;rw[h1]at k1;obtain⟨xb,xo,xs⟩:=x;obtain⟨yb,yo,ys⟩:=y;simp only[ZI]at k1;dsimp only at h2 h3 k2 k3;subst h2 h3 k2 k3 k1
 rfl
theorem Nx.fun {σ:Ren}{a x y:Option Addr}(h:Nx σ a x)(k:Nx σ a y):x=y:=by
 cases a<;>cases x<;>cases y<;>first|exact h.elim|exact k.elim|rfl|exact congrArg some (AR.fun h k)
theorem VR.NZ {σ:Ren}{a:Option Addr}{n c:Nat}{x y:Zc}(h:VR σ (.slice a n c) x)(k:VR σ (.slice a n c) y):x=y:=by
 cases h with
 |slice _ _ h=>cases k with
  |slice _ _ k=>rw[Nx.fun h k]
structure Ren.sub (ρ τ:Ren):Prop where
 map:∀b c,ρ b=some c→τ b=some c
 val:∀f,ρ.ok f=true→τ.ok f=true
theorem AR.sub {ρ τ:Ren}(s:ρ.sub τ){a x:Addr}(h:AR ρ a x):AR τ a x:=⟨s.map _ _ h.1,h.2⟩
theorem Nx.sub {ρ τ:Ren}(s:ρ.sub τ){a x:Option Addr}(h:Nx ρ a x):Nx τ a x:=by
 cases a<;>cases x<;>first|exact h.elim|trivial|exact AR.sub s h
theorem QG.sub {ρ τ:Ren}(s:ρ.sub τ){a x:Option Nat}(h:QG ρ a x):QG τ a x:=by
 cases a<;>cases x<;>first|exact h.elim|trivial|exact s.map _ _ h
theorem kK.sub {ρ τ:Ren}(s:ρ.sub τ){a x:Fn}(h:kK ρ a x):kK τ a x:=by
 cases h with
 |func h=>exact .func (s.val _ h)
 |yield h=>exact .yield (s.map _ _ h)
theorem VR.sub {ρ τ:Ren}(s:ρ.sub τ){v x:Zc}(h:VR ρ v x):VR τ v x:=by
 induction h with
 |bool b=>exact .bool b
 |int i n=>exact .int i n
 |string t=>exact .string t
 |pointer h=>exact .pointer (h.sub s)
 |slice n c h=>exact .slice n c (h.sub s)
 |map h=>exact .map (h.sub s)
 |chan h=>exact .chan (h.sub s)
 |func h ha _ hc _ iha ihc=>exact .func (h.sub s) ha iha hc ihc
 |nilFunc=>exact .nilFunc
 |iface t _ ih=>exact .iface t ih
 |nilIface=>exact .nilIface
 |agg hc _ ih=>exact .agg hc ih
 |tuple hc _ ih=>exact .tuple hc ih
 |Eo h=>exact .Eo h
 |meth n f c=>exact .meth n f c
theorem BN.sub {ρ τ:Ren}(s:ρ.sub τ){a x:Array Zc}(h:BN ρ a x):BN τ a x:=⟨h.1,fun i v y h1 h2=>(h.2 i v y h1 h2).sub s⟩
structure Ren.F9 (ρ τ:Ren):Prop where
 map:∀b c,ρ b=some c→τ c=some c
 val:∀f,ρ.ok f=true→τ.ok f=true
theorem AR.F9 {ρ τ:Ren}(s:ρ.F9 τ){a x:Addr}(h:AR ρ a x):AR τ x x:=⟨s.map _ _ h.1,rfl,rfl⟩
theorem Nx.F9 {ρ τ:Ren}(s:ρ.F9 τ){a x:Option Addr}(h:Nx ρ a x):Nx τ x x:=by
 cases a<;>cases x<;>first|exact h.elim|trivial|exact AR.F9 s h
theorem QG.F9 {ρ τ:Ren}(s:ρ.F9 τ){a x:Option Nat}(h:QG ρ a x):QG τ x x:=by
 cases a<;>cases x<;>first|exact h.elim|trivial|exact s.map _ _ h
theorem Kn {τ:Ren}{b:Array Zc}(h:∀(i:Nat) x,b[i]?=some x→∃WN,VR τ WN x):∃cu:Array Zc,BN τ cu b:=by
 have h':∀i:Fin b.size,∃WN,VR τ WN b[i]:=fun i=>h i b[i] (ZB i.2);refine⟨Array.ofFn fun i:Fin b.size=>ze (h' i),by simp,fun i v x h1 h2=>?_⟩;obtain⟨hi,rfl⟩:=Za.1 h2;obtain⟨_,rfl⟩:=Za.1 h1;rw[Array.getElem_ofFn];exact zl (h' ⟨i,hi⟩)
theorem Ko {a:Array Zc}{b:Array Zc}{p:Zc→Prop}(hs:a.size=b.size)(h:∀(i:Nat) v x,a[i]?=some v→b[i]?=some x→p x):∀(i:Nat) x,b[i]?=some x→p x:=by
 intro i x hx;have hi:i<a.size:=by have:=(Za.1 hx).1;omega
 exact h i _ x (ZB hi) hx
theorem VR.F9 {ρ τ:Ren}(s:ρ.F9 τ){v x:Zc}(h:VR ρ v x):∃WN,VR τ WN x:=by
 induction h with
 |bool b=>exact⟨_,.bool b⟩
 |int i n=>exact⟨_,.int i n⟩
 |string t=>exact⟨_,.string t⟩
 |pointer h=>exact⟨_,.pointer (h.F9 s)⟩
 |slice n c h=>exact⟨_,.slice n c (h.F9 s)⟩
 |map h=>exact⟨_,.map (h.F9 s)⟩
 |chan h=>exact⟨_,.chan (h.F9 s)⟩
 |func h ha _ hc _ iha ihc=>
  obtain⟨cu,h1⟩:=Kn (Ko ha iha);obtain⟨c₁,h2⟩:=Kn (Ko hc ihc);cases h with
  |func h=>exact⟨_,.Wm (.func (s.val _ h)) h1 h2⟩
  |yield h=>exact⟨_,.Wm (.yield (s.map _ _ h)) h1 h2⟩
 |nilFunc=>exact⟨_,.nilFunc⟩
 |iface t _ ih=>exact⟨_,.iface t ih.choose_spec⟩
 |nilIface=>exact⟨_,.nilIface⟩
 |agg hc _ ih=>
  obtain⟨c₁,h2⟩:=Kn (Ko hc ih);exact⟨_,.PU h2⟩
 |tuple hc _ ih=>
  obtain⟨c₁,h2⟩:=Kn (Ko hc ih);exact⟨_,.tuple' h2⟩
 |Eo h=>exact⟨_,.Eo h⟩
 |meth n f c=>exact⟨_,.meth n f c⟩
theorem VR.LX {ρ τ:Ren}(s:ρ.F9 τ){a:Option Addr}{n c:Nat}{x:Zc}(h:VR ρ (.slice a n c) x):VR τ x x:=by
 cases h with
 |slice n c h=>exact .slice n c (h.F9 s)
open Classical in
noncomputable def canon (τ:Ren)(x:Zc):Zc:=if VR τ x x then x else if h:∃v,VR τ v x then ze h else Ze
theorem N9 {τ:Ren}{x:Zc}(h:∃v,VR τ v x):VR τ (canon τ x) x:=by
 unfold canon;split
 ·assumption
 ·exact zl h
theorem cv {τ:Ren}{x:Zc}(h:VR τ x x):canon τ x=x:=if_pos h
noncomputable def Db (τ:Ren):Obj→Obj
 | .cells c e f=>.cells (c.map (canon τ)) e (min 0 f.1,max c.size f.2)
 |o=>if OM o=true then .coro none else o
noncomputable def snap (τ:Ren)(w:Zb):Zb:= {w with heap:=w.heap.map (Db τ)}
theorem MU (τ:Ren)(w:Zb)(b:Nat):(snap τ w).heap[b]?=(w.heap[b]?).map (Db τ):=by
 unfold snap;simp
theorem KU (τ:Ren)(w:Zb):(snap τ w).heap.size=w.heap.size:=by
 unfold snap;simp
theorem Xl {τ:Ren}{o:Obj}(h:OM o=true):Db τ o=.coro none:=by
 cases o<;>first|(cases h;done)|(unfold Db;exact if_pos rfl)
theorem cx {o:Obj}(h:OM o=true):H_ o=.coro none:=by
 cases o<;>first|(cases h;done)|(unfold H_;exact if_pos rfl)
theorem Qq (n:Nat)(f:Nat×Nat):wB (min 0 f.1,max n f.2) f:=.inr (.inr ⟨by simp,Nat.le_max_right _ _⟩)
theorem OR.F9 {ρ τ:Ren}(s:ρ.F9 τ){o x:Obj}(h:OR ρ o x):OR τ (Db τ x) x:=by
 have box:OM x=true→OR τ (Db τ x) x:=fun hb=>by rw[Xl hb];exact .junk hb
 cases h with
 | @cells c c' e f f' hv hf=>
  refine .cells e ⟨by simp,fun i v y h1 h2=>?_⟩ (Qq _ _);rw[Yi,h2]at h1;cases h1;refine N9 (Ko (p:=fun x=>∃v,VR τ v x) hv.1 (fun i v x h1 h2=>(hv.2 i v x h1 h2).F9 s) i y h2)
 |number l h=>exact .number l (AR.F9 s h)
 |junk h=>exact box h
 |_=>exact box rfl
theorem TX {τ:Ren}{w:Zb}{b:Nat}{o:Obj}(h:w.heap[b]?=some o)(hO:OR τ (Db τ o) o):Cn (snap τ w) b∨∃q,Quiet q∧(snap τ w).heap[b]?=some q:=by
 have hg:(snap τ w).heap[b]?=some (Db τ o):=by rw[MU,h];rfl
 cases o with
 |cells c e f=>
  refine .inl ⟨e,(c.map (canon τ)).size,by unfold Ys;rw[hg];rfl,fun off ho=>?_⟩;unfold Yu;rw[hg];simp[Db]at ho⊢;omega
 |number a l=>exact .inr ⟨_,.number a l,hg⟩
 |pending _ _=>cases hO
 |view _ _=>cases hO
 |_=>exact .inr ⟨_,.coro,hg⟩
theorem IG {τ:Ren}{w:Zb}{a:Addr}{v:Zc}(h:w.cell? a=some v)(hv:VR τ v v):(snap τ w).cell? a=some v:=by
 unfold zJ at*;rw[MU];cases ho:w.heap[a.block]? with
 |none=>rw[ho]at h;cases h
 |some o=>
  rw[ho]at h;cases o with
  |cells c e f=>
   show(match some (Db τ (.cells c e f)) with|some (.cells c _ _)=>_|_=>none)=_;simp only[Db]at*;split at h
   ·cases h
   ·rw[if_neg ‹_›];rw[Yi,h];simp[cv hv]
  |_=>first|(cases h;done)|(exfalso;simp at h;done)
open Classical in
noncomputable def Ren.Vb (D:Nat→Prop)(ok:OL)(good:Code→Bool)(sp:YT→Bool)(hl:D ok.low):Ren where
 map:=fun b=>if D b then some b else none
 ok:=ok
 good:=good
 sp:=sp
 inj:=by
  intro b qa c h1 h2;split at h1<;>split at h2<;>first|cases h1|cases h2|skip
  all_goals simp_all
 base:=if_pos hl
 sep:=by
  intro b c h;split at h<;>cases h
  rfl
open Classical in
theorem F_ {D:Nat→Prop}{ok:OL}{good:Code→Bool}{sp:YT→Bool}{b c:Nat}{hl:D ok.low}:(Ren.Vb D ok good sp hl) b=some c↔D b∧b=c:=by
 show(if D b then some b else none)=some c↔_;split
 ·simp[*]
 ·simp[*]
theorem N_ {ρ:Ren}{D:Nat→Prop}{ok:OL}{good:Code→Bool}{sp:YT→Bool}(h:∀b c,ρ b=some c→D c)(hv:∀f,ρ.ok f=true→ok f=true){hl:D ok.low}:ρ.F9 (Ren.Vb D ok good sp hl):=⟨fun b c hb=>F_.2 ⟨h b c hb,rfl⟩,hv⟩
theorem lZ {D:Nat→Prop}{ok:OL}{good:Code→Bool}{sp:YT→Bool}{w:Zb}{hl:D ok.low}(h:∀c,D c→∃o,w.heap[c]?=some o∧OR (Ren.Vb D ok good sp hl) (Db (Ren.Vb D ok good sp hl) o) o):WR (Ren.Vb D ok good sp hl) (snap (Ren.Vb D ok good sp hl) w) w:=by
 refine⟨fun b c hb=>?_,rfl⟩;obtain⟨hD,rfl⟩:=F_.1 hb;obtain⟨o,h1,h2⟩:=h b hD;exact⟨_,o,by rw[MU,h1];rfl,h1,h2⟩
def Ren.with (ρ:Ren)(ok:OL)(good:Code→Bool)(sp:YT→Bool)(hl:ok.low=ρ.ok.low):Ren:= {ρ with ok:=ok,good:=good,sp:=sp,base:=by rw[hl];exact ρ.base,sep:=by rw[hl];exact ρ.sep}
theorem Rx {ρ:Ren}{ok:OL}{good:Code→Bool}{sp:YT→Bool}(h:∀f,ρ.ok f=true→ok f=true){hl:ok.low=ρ.ok.low}:ρ.sub (ρ.with ok good sp hl):=⟨fun _ _ h=>h,h⟩
theorem OR.Ry {ρ:Ren}{ok:OL}{good:Code→Bool}{sp:YT→Bool}(hv:∀f,ρ.ok f=true→ok f=true){hl:ok.low=ρ.ok.low}{o x:Obj}(h:OR ρ o x):OR (ρ.with ok good sp hl) (H_ o) x:=by
 have s:ρ.sub (ρ.with ok good sp hl):=Rx hv (hl:=hl);have box:OM o=true→OM x=true→OR (ρ.with ok good sp hl) (H_ o) x:=fun hb hx=>by rw[cx hb];exact .junk hx
 cases h with
 | @cells c c' e f f' h hf=>
  refine .cells e (BN.sub s h) ?_;rcases hf with rfl|hf|⟨h1,h2⟩
  ·exact Qq _ _
  ·exact .inr (.inl hf)
  ·exact .inr (.inr ⟨by simp,Zx h2 (Nat.le_max_right _ _)⟩)
 |number l h=>exact .number l (h.sub s)
 |junk h=>exact box rfl h
 |_=>exact box rfl rfl
theorem WR.Ry {ρ:Ren}{ok:OL}{good:Code→Bool}{sp:YT→Bool}(hv:∀f,ρ.ok f=true→ok f=true){hl:ok.low=ρ.ok.low}{w w':Zb}(h:WR ρ w w'):WR (ρ.with ok good sp hl) (Xd w) w':=by
 refine⟨fun b c hb=>?_,h.os⟩;obtain⟨o,o',h1,h2,h3⟩:=h.obj b c hb;exact⟨H_ o,o',by rw[Qo,h1];rfl,h2,h3.Ry hv⟩
section
variable {P' P:Zp}
theorem Fe.out (T:Twins P' P)(hd:BL≤P.depth){B:Fj}(hB:B.La)(hl:B.lcs=[CV P']){g:Zg}{w:Zb}{t:Tape}{m:Bool}{AE:Zg}{w₁:Zb}{es:Array ZU}(h:Fe P' P B g w∨Ha B g∨PZ B g)(hn:¬BM B g)(hs:Z6 P' m g (tp w t)=.go AE w₁ es):Fe P' P B AE w₁∨Ha B AE∨PZ B AE:=by
 rcases h with h|h
 ·exact((h.Dg t).step T hd hB hn hs).1
 ·exact absurd hs (MM hl h _ _ _)
theorem l9 (T:Twins P' P)(hd:BL≤P.depth){ρ:Ren}(E:Env P' P ρ)(JQ:ρ.sp=fun _=>false){f:YT}(hf:ρ.ok.Mz f=true){a a':Array Zc}(ha:BN ρ a a'){wl w':Zb}(hw:WR ρ wl w')
  {c':ZA} {cs':List ZA} {Post:Zc→Zb→Prop} (hb:C2 Post) (hc:∀t,Calls P' f a (tp wl t) (eH Post fun _ _=>False))
  (hq:∀(v:Zc) (w:Zb),Post v w→∀(b:Nat) (o:Obj),Quiet o→wl.heap[b]?=some o→w.heap[b]?=some o)
  (Rz:∀b c,ρ b=some c→Cn wl b∨∃o,Quiet o∧wl.heap[b]?=some o) {S:Nat→Prop} (hS:∀c,S c↔∃b,ρ b=some c) {m:Bool}:
  Wa P m (fun c=>∃b,ρ b=some c) (fun S g w=>∃σ Gy v v',g=AO (c'.finish v') cs'∧Post v Gy∧VR σ v v'∧ρ.le σ∧(∀b c,σ b=some c→ρ b=some c∨(wl.heap.size≤b∧w'.heap.size≤c))∧WR σ Gy w∧∀c,S c↔∃b,σ b=some c) S (AO (Zq P f a' .normal) (c'::cs')) w':=by
 let B:Fj:=⟨.whole,[CV P'],c'::cs',false⟩
 have hB:B.La:=⟨fun _=>Cut.Q0,by simp[B],fun _=>by simp[B],fun h=>by cases h⟩;have hG:qF P' P B ρ (AO (Zq P' f a .normal) [CV P']) (AO (Zq P f a' .normal) (c'::cs')):=
  ⟨_,_,_,_,rfl,rfl,.bot (B:=B) (G9.enter E hf (by rw[JQ]) ha)⟩
 have Xm:Fe P' P B (AO (Zq P' f a .normal) [CV P']) wl:=⟨ρ,_,_,E,hG,hw,JQ⟩;have K:C8 P' B true (eB P' Post fun _ _=>False):=WL rfl hb (fun _ _ _ x=>x);have hM:=SZ T hd hB rfl rfl rfl hb (fun _ _ _ x=>x) Xm hc;have cy:∀(g:Zg) (w:Zb),eB P' Post (fun _ _=>False) g w→∀(b:Nat) (o:Obj),(Quiet o∧wl.heap[b]?=some o)→w.heap[b]?=some o:=by
  rintro g w (⟨v,_,h⟩|⟨x,_,h⟩) b o ⟨h1,h2⟩
  ·exact hq v w h b o h1 h2
  ·exact h.elim
 have Az:∀(b:Nat) (o:Obj),(Quiet o∧wl.heap[b]?=some o)→b<wl.heap.size:=fun b o h=>(Za.1 h.2).1;have H:MN P' P B (fun b o=>Quiet o∧wl.heap[b]?=some o) ρ wl.heap.size w'.heap.size (fun c=>∃b,ρ b=some c) S ρ (AO (Zq P' f a .normal) [CV P']) wl (AO (Zq P f a' .normal) (c'::cs')) w':=
  ⟨E,Ren.le_refl _,fun _ _ h=>.inl h,⟨Zj _,Zj _⟩,.inl hG,hw,fun c ⟨b,JO⟩=>⟨b,JO,(Rz b c JO).imp id fun⟨o,h1,h2⟩=>⟨o,⟨h1,h2⟩,h2⟩⟩,hS⟩
 have hR:=Ki (m':=m) T hd hB K (D:=fun g w=>Fe P' P B g w∨Ha B g∨PZ B g) (fun g w t AE w₁ es h hn hs=>Fe.out T hd hB rfl h hn hs) (J:=fun b o=>Quiet o∧wl.heap[b]?=some o) (fun b o h=>⟨h.1,Az b o h⟩)
  (fun g w hD hz hM b o h=>LP T hd hB K (fun b o h=>h.1) cy hM hD b o h (Zl (Az b o h) hz))
  (fun σ g w _ hl B3=>by
   obtain⟨c,r,x,x',h1,h2,_⟩:=hl;cases h1;rcases B3 with⟨v,h3,_⟩|⟨y,_,h4⟩
   ·rw[h2]at h3
    have:=congrArg (fun g:Zg=>g.frame) h3;exact Dt this.symm
   ·exact h4) hM (.inl Xm) S ρ _ _ H
 refine hR.imp fun Fz g w₁ hx=>?_;rcases hx with⟨σ,gl,Gy,B3,HH⟩|⟨σ,gl,Gy,t,_,hsr,HH⟩
 ·rcases B3 with⟨v,rfl,hp⟩|⟨y,_,h4⟩
  ·rcases HH.goes with hg|FX|⟨l_,_,_,_,_,_,_,_,Gz,_⟩
   ·exfalso
    obtain⟨eF,eG,h1,h2⟩:=hg.AO;have:=congrArg (fun g:Zg=>g.callers.length) h1;simp only[AO,zY]at this;simp only[B,zK,zY]at h2;omega
   ·obtain⟨_,c,r,c₂,asf,WN,tY,h1,h2,h3,h4,h5⟩:=FX
    cases h1;cases h2;have e:v=WN:=LO (congrArg (fun g:Zg=>g.frame) h4);subst e;exact⟨σ,Gy,v,tY,h5,hp,h3,HH.le,HH.fresh,HH.world,HH.holds⟩
   ·rw[HH.le.2.2.2,JQ]at Gz;cases Gz
  ·exact h4.elim
 ·obtain⟨l_,_,_,_,_,_,_,_,Gz,_⟩:=hsr
  rw[HH.le.2.2.2,JQ]at Gz;cases Gz
theorem Ej {B:Fj}{Stop:Zg→Zb→Prop}(K:NU P' B Stop){f:YT}{fn:Func}{i:Nat}(hf:P'.funcs[f]?=some fn)(hr:fn.results= #[.tmp i]){args:Array Zc}{c:ZA}{cs:List ZA}{w:Zb}{Post:Zc→Zb→Prop}
  (JI:B.lcs.length<(c::cs).length) (hM:Cm P' B true Stop (AO (Zq P' f args .normal) (c::cs)) w) (h:Calls P' f args w (eH Post fun _ _=>False)):
  ∃v w₁,Post v w₁∧∀t,Cw P' B true (AO (Zq P' f args .normal) (c::cs)) w (AO (c.finish v) cs) (tp w₁ t):=by
 obtain⟨e,w',fr,hR,qI,Hp,wX⟩:=h (c::cs);cases e with
 |panicked x=>exact hR.elim
 |outgrown=>exact hR.elim
 |returned v=>
  refine⟨v,w',hR,fun t=>?_⟩;obtain⟨N,hN⟩:=show Steps P' _ _ from qI;have k2:∀v',AO fr (c::cs)≠AO ((CV P').finish v') []:=fun v' hx=>by cases congrArg Goroutine.callers hx
  have Rd:¬BM B (AO fr (c::cs)):=by
   rintro(⟨_,h1,_⟩|⟨_,h1,_⟩)<;>(have h2:(c::cs).length=B.lcs.length:=h1;omega)
  have uz:Z6 P' true (AO fr (c::cs)) (tp w' t)=.go (AO (c.finish v) cs) (tp w' t) (seen P' fr.fn #[]):=by
   obtain⟨hm,hd,hk,Qj,hf',OP⟩:=wX;rw[Hp,hf]at hf';cases hf';have e1:=results_tmp (P':=P') hr fr.tmps w';have e2:(results fn fr.tmps).run P' w'=.ok (fr.tmps.getD i Ze) w':=by
    have:=congrArg Prod.fst e1;simpa[Sem.run]using this
   rw[e2]at OP;cases OP;rw[BC.2 (by rw[hm];intro h;cases h)];exact DI hd hm hk (by rw[Hp];exact hf) (results_tmp hr _ _)
  rcases Ia K k2 N _ _ hM hN with⟨e1,e2⟩|hp
  ·have e3:Zq P' f args .normal=fr:=congrArg (fun g:Zg=>g.frame) e1
   rw[e1,e2];exact .one t Rd uz
  ·exact hp.snoc t Rd uz
end
theorem Eg.left {α β:Type}{R:α→β→Prop}{l:List α}{m:List β}(h:Eg R l m){x:α}(hx:x∈l):∃y∈m,R x y:=by
 induction h with
 |nil=>cases hx
 |cons h _ ih=>
  rcases List.mem_cons.1 hx with rfl|hx
  ·exact⟨_,zF,h⟩
  ·obtain⟨y,hy,hr⟩:=ih hx
   exact⟨y,zr _ hy,hr⟩
section
variable {P' P:Zp}{B:Fj}{ρ:Ren}{Stop:Zg→Zb→Prop}
theorem G9.plain (E:Env P' P ρ){K:Cut}(hK:K.seg=false){fr Bd:ZA}(h:G9 P' P K ρ fr Bd):Rk P' ρ fr:=by
 refine⟨?_,fun d hd=>?_⟩
 ·obtain⟨fn,_,h1,_⟩:=E.Mz.has fr.fn (h.src hK).1 (h.src hK).2
  exact⟨fn,h1⟩
 ·obtain⟨k,_,hl⟩:=h.defers
  obtain⟨y,_,hr⟩:=hl.left hd;cases hr with
  |mk hb=>exact⟨_,_,_,hb,rfl⟩
theorem F6.plain (E:Env P' P ρ)(hK:B.K.seg=false){M M':List ZA}(h:F6 P' P B ρ M M'):∃f L,M=f::(L++B.lcs)∧Rk P' ρ f∧∀c∈L,Rk P' ρ c:=by
 induction h with
 |bot h=>exact⟨_,[],rfl,h.plain E hK,fun c hc=>by cases hc⟩
 |cons h BI t ih=>
  obtain⟨f,L,e,h1,h2⟩:=ih;cases e;refine⟨_,_::L,rfl,h.plain E rfl,fun c hc=>?_⟩;rcases List.mem_cons.1 hc with rfl|hc
  ·exact h1
  ·exact h2 c hc
theorem WR.dw {w w':Zb}(h:WR ρ w w'):DW ρ w:=by
 intro b b' hb ds hd;obtain⟨o,o',h1,h2,h3⟩:=h.obj b b' hb;rw[hd]at h1;cases h1;cases h3 with
 |deferred=>rfl
theorem DW.Au {w w₁:Zb}{n:Nat}(h:DW ρ w)(hn:∀b b',ρ b=some b'→b<n)(hs:∀b,b<n→w₁.heap[b]?=w.heap[b]?):DW ρ w₁:=by
 intro b b' hb ds hd;rw[hs b (hn b b' hb)]at hd;exact h b b' hb ds hd
theorem S3 (K:C8 P' B true Stop)(Kh:∀g w t,Stop g w→¬BM B g→Rc P' true g (tp w t))(hl:B.lcs=[CV P'])(JR:B.K.seg=false)(qN:∀(fr:ZA) cs w x,fr.mode=.panicking x→cs≠ []→¬Stop (AO fr cs) w)(E:Env P' P ρ)
  {f f':ZA} {cs cs':List ZA} (hS:F6 P' P B ρ (f::cs) (f'::cs')) {g:Zg} {w:Zb} (hM:Cm P' B true Stop g w) {x:List zc} {w₁:Zb} (hp:Cw P' B true g w (AO (f.raise x) cs) w₁) (hD:DW ρ w₁):
  ∃w₂ y,Cg w₁ w₂∧Stop (AO ((CV P').raise (x++y)) []) w₂:=by
 obtain⟨asg,L,e,h1,h2⟩:=hS.plain E JR;cases e;rw[hl]at hp;obtain⟨y,hm,hr⟩:=raise_mode f x;obtain⟨w₂,z,h3,h4⟩:=WZ (ρ:=ρ) K Kh hl qN L (f.raise x) w₁ (x++y) hm (by rw[hr];exact⟨h1.fn,h1.defers⟩) h2 hD (hM.path Kh hp);exact⟨w₂,y++z,h3,by rw[←ZaQ];exact h4⟩
theorem Kp {fn:Func}{Post:Zc→Zb→Prop}{PostX:List zc→Zb→Prop}(hl:B.lcs=[CV P']):NU P' B (Er P' B fn Post PostX) where
 fin g w h ha:=by
  rcases h with⟨_,_,i,_,_,h1,es,h2⟩|⟨x,rfl,_⟩
  ·exact⟨h1,_,es,h2⟩
  ·exfalso
   rcases ha with⟨_,h1,_⟩|⟨_,h1,_⟩<;>(rw[hl]at h1;cases h1)
 out g w h hn:=by
  rcases h with⟨ha,_⟩|⟨x,rfl,_⟩
  ·exact absurd ha hn
  ·exact⟨_,rfl,fun u=>NQ⟩
theorem me {fn:Func}{Post:Zc→Zb→Prop}{PostX:List zc→Zb→Prop}:∀(fr:ZA) cs w x,fr.mode=.panicking x→cs≠ []→¬Er P' B fn Post PostX (AO fr cs) w:=by
 rintro fr cs w x hm hc (⟨ha,_⟩|⟨y,h,_⟩)
 ·exact FV hm ha
 ·exact hc (congrArg Goroutine.callers h)
end
end Go.BK
