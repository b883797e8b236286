/- Part of a proof. -/
import Derived.Test.YtkkjobdfheidkaaGreatDoorQ06
import Derived.IntWalk
import Derived.Conc.BesideWords
import Derived.Conc.CrowdComm
set_option maxRecDepth 100000
set_option maxHeartbeats 6400000
set_option linter.unusedVariables false
set_option linter.unusedSimpArgs false
open Array renaming getElem?_modify→Zag,getElem?_setIfInBounds_ne→Zk,getElem?_eq_getElem→ZB,getElem?_eq_some_iff→Za,getElem?_map→Yi,getElem?_setIfInBounds_self_of_lt→Z9
open Go renaming World→Zb,Value→Zc,undef→Ze,Frame→ZA,Goroutine→Zg,storedEv→Yf,Program→Zp,TypeId→Zs,stepG→Z6,Event→ZU,Trace→YL
open Go.Conc renaming stepG_seq→Zn,stepG_region_end→Zf,stepG_skip→ZL,goes_oper_k→zm,mem_listed→zy,evL_cell→Yy,stepG_ret'→zO,crowd→Yg,Deaf_other→YN,mem_ofEvents→ZJ,served→YQ
open Go.Conc.Goes renaming stop→ZQ
open Go.Deferred renaming ofValue→zS
open Go.Frame renaming enter→Zq
open Go.Instr renaming sliceAt→Zay
open Go.MemAct renaming ofEvent→ZK,touch?→zV
open Go.MemOp renaming ofEvents→ZE
open Go.Proofs.Tryz renaming prog→Zd,f104→zA
open Go.RowKit.Below renaming heap_setCell→Y9,heap_alloc→zx
open Go.World renaming size_alloc→ZG,setCell→Z1,alloc→ZaW,cell?→zJ,cell?_of_block→zo
open Nat renaming lt_of_lt_of_le→Zl,le_trans→Zx,le_refl→Zj,eq_zero_or_pos→Yr
open Option renaming getD_some→Zw,map_eq_some_iff→zd
open Option.some renaming injEq→ZI,inj→Z2
namespace Go.Proofs.Fit
open Go Go.Conc
noncomputable def By:Code:=Tryz.f104.body.getD .skip
def Gw:Code→Code
 | .seq a _=>a
 |c=>c
def Dv:Code→Code
 | .seq _ b=>b
 |c=>c
def JW:Code→Code
 | .block _ (.loop c)=>c
 |c=>c
noncomputable def Dh:Code:=Dv (Dv (Dv By))
noncomputable def IL:Code:=JW (Dv (Gw Dh))
noncomputable def D4:Code:=Dv Dh
noncomputable def FG:Code:=Dv D4
noncomputable def rr:Array Oper:=match Gw D4 with| .region _ ops _=>ops|_=> #[]
def W1 (W:Zb)(gc:Array Zc)(lv sv:Zc):Zb:=
 (((((W.alloc (.cells gc 112)).alloc (.cells #[lv] 27)).alloc (.cells #[sv] 23)).alloc (.chan 2 #[] false 0 0 false)).alloc (.cells #[.chan (some (W.heap.size+3))] 197)).alloc (.cells #[.int .u64 0,.int .u32 0] 206)
def Di (b:Nat):Zc:=.pointer (some ⟨b,0,none⟩)
def TM (n:Nat)(gv lv sv x9 Oj Mv Mw L_ Ma Ld Le:Zc):Array Zc:=
 #[gv,lv,sv,Di n,Di (n+1),Di (n+2),.slice none 0 0,Di (n+4),Di (n+5),x9,Ze,Ze,.chan (some (n+3)),Oj,Mv,Mw,L_,Ma,Ld,Le,Ze,Ze,Ze,Ze,Ze,Ze,Ze,Ze,Ze,Ze,Ze,Ze]
def T1 (n:Nat)(gv lv sv:Zc):Array Zc:=TM n gv lv sv Ze Ze Ze Ze Ze Ze Ze Ze
end Go.Proofs.Fit
set_option linter.unusedSimpArgs false
namespace Go.Proofs.Fit
open Go Go.Conc Go.BK Go.Pair Go.RowKit Go.Conc.Lib Go.ConcR.Gen Go.ConcN.Gen
open Go.ConcN (WgLive)
open Go.ConcR (DC0)
theorem iH (S:Nat→Prop)(w:Zb)(o:Obj):Hr S w (w.alloc o)=fun b=>S b∨b=w.heap.size:=by
 funext b
 apply propext;unfold Hr;rw[ZG];constructor
 ·rintro(h|h)
  ·exact .inl h
  ·exact .inr (by omega)
 ·rintro(h|h)
  ·exact .inl h
  ·exact .inr (by omega)
theorem Xy (S:Nat→Prop)(w:Zb)(a:Addr)(v:Zc):Hr S w (w.setCell a v)=S:=by
 funext b
 apply propext;unfold Hr;have:(w.setCell a v).heap.size=w.heap.size:=by simp[Z1]
 rw[this];constructor
 ·rintro(h|h)
  ·exact h
  ·omega
 ·exact .inl
noncomputable def FH (T:Array Zc)(cs:List ZA):Zg:=G ((base 104).at ⟨T,[]⟩ [.code IL,.inLoop IL,.inBlock 0,.code D4]) cs
section
variable {Lk S:Nat→Prop}{Wg n:Nat}{gv lv sv:Zc}{cs:List ZA}
theorem iI (w:Zb):Goes Zd true (Ah 206 Wg S) DC0 (fun g _=>g=FH (TM n gv lv sv Ze (.int .i64 0) Ze Ze Ze Ze Ze Ze) cs) 8 (G ((base 104).at ⟨T1 n gv lv sv,[]⟩ [.code Dh]) cs) w:=by
 have hK:True:=trivial;simp only[T1,TM,Dh,Dv,By,zA,Zw]
 u_c Zn Dd hK
 u_c Zn Dd hK
 u_reg Dd hK
 u_op Dd hK
 u_c Zf Dd hK
 u_c stepG_block Dd hK
 u_c stepG_loop Dd hK
 refine ZQ fun _ _=>?_;simp[FH,IL,JW,Gw,TM,D4,Dh,Dv,By,zA]
end
structure AF (S:Nat→Prop)(pb:Nat)(k:Nat)(w₀ w:Zb):Prop where
 base:DM S w₀ w
 cell:w.heap[pb]?=some (.cells #[.int .i64 k] 3 (0,0))
 lt:pb<w.heap.size
theorem mI {S:Nat→Prop}{pb k Wg:Nat}{w₀:Zb}(hS:¬S Wg)(hp:pb≠Wg):F8 206 Wg (fun b=>S b∨b=pb) (AF S pb k w₀) where
 rely w w' r h:=⟨h.base.trans ⟨fun b hb=>r.base.same b (.inl hb),r.base.size,r.base.os⟩,(r.base.same pb (.inr rfl)).trans h.cell,Zl h.lt r.base.size⟩
 set w a v ha h:=by
  have hh:∀b,b≠Wg→(w.setCell a v).heap[b]?=w.heap[b]? :=fun b hb=>Y9 w a v b (by rw[ha];exact hb);refine⟨h.base.trans ⟨fun b hb=>hh b (fun e=>hS (e▸hb)),by simp[Z1],rfl⟩,?_,by simpa[Z1]using h.lt⟩;exact(hh pb hp).trans h.cell
def Mb (n pb:Nat):Zc:=.func (.func 156) #[] (Ic (n+5) (n+1) pb n (n+2) (n+4))
def mJ:Code→Code
 | .block _ c=>c
 |c=>c
def iJ:Code→Array Oper
 | .region _ ops _=>ops
 |_=> #[]
noncomputable def Ok:Code:=mJ (Gw (Dv (Dv IL)))
noncomputable def xM:Array Oper:=iJ (Gw Ok)
noncomputable def r67:Code:=Dv Ok
noncomputable def r7:Code:=Dv r67
noncomputable def xN:Array Oper:=iJ r7
noncomputable def r8:Code:=Dv (Dv (Dv IL))
noncomputable def k5:List Item:=[.inBlock 1,.code r8,.inLoop IL,.inBlock 0,.code D4]
noncomputable def T6 (n pb k:Nat)(gv lv sv Ld Le:Zc)(cs:List ZA):Zg:=
 G ((base 104).at ⟨TM n gv lv sv (Di pb) (.int .i64 k) (.bool true) (.int .i64 k) (.tuple #[]) (Mb n pb) Ld Le,[]⟩ (.inRegion xN []::k5)) cs
section
variable {Lk S:Nat→Prop}{n k:Nat}{gv lv sv x9 Mv Mw L_ Ma Ld Le:Zc}{cs:List ZA}{Pay:FA}{Next:B0}
theorem T7 (hk:k<2)(w:Zb)(Kq:WgLive 206 (n+5) w)(hW:n+5<w.heap.size)(eM:¬S (n+5))(hSl:∀b,S b→b<w.heap.size)(hLk:∀b,Lk b→b<w.heap.size)
  (ae7:∀(pb:Nat) (w':Zb),w.heap.size≤pb→pb<w'.heap.size→DM S w w'→WgLive 206 (n+5) w'→w'.heap[pb]?=some (.cells #[.int .i64 k] 3 (0,0))→
   A7 Zd false 206 (n+5) (fun b=>S b∨b=pb) (Pair.AtSend Zd 206 (n+5) (n+3) Pay) (fun b=>S b∨b=pb) (born Zd (call156 (n+5) (n+1) pb n (n+2) (n+4))) w'∧
    Next (fun b=>S b∨b=pb) (T6 n pb k gv lv sv Ld Le cs) w'):
  A7 Zd true 206 (n+5) Lk (AtKdS Zd 206 (n+5) (n+3) Pay Next) S (FH (TM n gv lv sv x9 (.int .i64 k) Mv Mw L_ Ma Ld Le) cs) w:=by
 have hK:True:=trivial;have Az:((k:Int)<2):=by omega
 have hA:A7 Zd true 206 (n+5) Lk (fun S' g w'=>S'=S∧DM S w w'∧WgLive 206 (n+5) w'∧g=G ((base 104).at ⟨TM n gv lv sv x9 (.int .i64 k) (.bool true) (.int .i64 k) L_ Ma Ld Le,[]⟩ (.inRegion xM [1,2]:: .code r67::k5)) cs) S (FH (TM n gv lv sv x9 (.int .i64 k) Mv Mw L_ Ma Ld Le) cs) w:=by
  refine A7.GM (n:=20) ?_;have hF:DM S w w∧WgLive 206 (n+5) w:=⟨DM.refl _ _,Kq⟩;have rl:∀ {a b:Zb},DM S w a∧WgLive 206 (n+5) a→Ah 206 (n+5) S a b→DM S w b∧WgLive 206 (n+5) b:=fun h r=>⟨h.1.trans r.base,r.live h.2⟩;simp only[FH,IL,JW,Gw,TM,D4,Dh,Dv,By,zA,Zw]
  u_c Zn rl hF
  u_reg rl hF
  u_op rl hF
  u_c Zf rl hF
  u_c Zn rl hF
  u_cond true rl hF
  u_c ZL rl hF
  u_c Zn rl hF
  u_c stepG_block rl hF
  u_c Zn rl hF
  u_reg rl hF
  u_op rl hF
  refine ZQ fun _ r=>⟨trivial,(rl hF r).1,(rl hF r).2,?_⟩;simp[FH,k5,r67,r8,xM,Ok,mJ,iJ,IL,JW,Gw,TM,D4,Dh,Dv,By,zA]
 refine hA.bind fun S' g w₁ B3=>?_;obtain⟨rfl,MY,Xz,rfl⟩:=B3 w₁ (Ah.refl w₁);clear hA B3;refine A7.Qt rfl fun w₂ hr=>?_;have mK:=MY.trans hr.base;have uF:=hr.live Xz;have Gz:w.heap.size≤w₂.heap.size:=mK.size;clear hr MY Xz;simp only[xM,k5,r67,r8,Ok,mJ,iJ,IL,JW,Gw,TM,D4,Dh,Dv,By,zA,Zw];refine zm rfl rfl (by decide) (fun K hK=>?_)
 go_simp
 refine hK _ _ ⟨⟨by simp,fun b hb _=>zx _ _ _ hb,rfl,rfl,rfl,fun e he=>?_⟩,?_⟩
 ·have hm:=zy he
  simp[go_sem, *]at hm
 clear hK K;rw[iH];have fi:(w₂.alloc (.cells #[.int .i64 0] 3)).heap[w₂.heap.size]?=some (.cells #[.int .i64 0] 3 (0,0)):=by
  unfold ZaW;exact Array.getElem?_push_size
 have fj:(w₂.alloc (.cells #[.int .i64 0] 3)).frozen? ⟨w₂.heap.size,0,none⟩=false:=by simp[go_sem]
 have T8:DM S' w (w₂.alloc (.cells #[.int .i64 0] 3)):=mK.trans ⟨fun b hb=>zx _ _ _ (Zl (hSl b hb) Gz),by simp,rfl⟩;have XA:WgLive 206 (n+5) (w₂.alloc (.cells #[.int .i64 0] 3)):=WgLive.of_heap uF (zx _ _ _ (by omega));have hz:w₂.heap.size<(w₂.alloc (.cells #[.int .i64 0] 3)).heap.size:=by simp
 generalize hpb:w₂.heap.size=pb at*;generalize w₂.alloc (.cells #[.int .i64 0] 3)=DL at*;clear mK uF hpb;refine A7.Qt rfl fun Km hr=>?_;have uG:=T8.trans (⟨fun b hb=>hr.base.same b (.inl hb),hr.base.size,hr.base.os⟩:DM S' DL Km);have uH:=hr.live XA;have mL:=(hr.base.same pb (.inr rfl)).trans fi;have ae8:Km.cell? ⟨pb,0,none⟩=some (.int .i64 0):=by unfold zJ;rw[mL];rfl
 have ae9:=(World.frozen?_of_block (a:=⟨pb,0,none⟩) (hr.base.same pb (.inr rfl))).trans fj;have uI:pb<Km.heap.size:=Zl hz hr.base.size;clear hr T8 XA fi fj hz;refine zm rfl rfl (by decide) (fun K hK=>?_)
 go_simp
 have hpW:pb≠n+5:=by omega
 have hh:∀b,b≠pb→(Km.setCell ⟨pb,0,none⟩ (.int .i64 k)).heap[b]?=Km.heap[b]? :=fun b hb=>Y9 Km _ _ b hb;refine hK _ _ ⟨⟨by simp[Z1],fun b hb hx=>hh b fun e=>?_,rfl,rfl,rfl,fun e he=>?_⟩,?_⟩
 ·subst e
  rcases hx with hx|hx
  ·exact hx (.inr rfl)
  ·have:=hLk b hx;omega
 ·have hm:=zy he
  simp[go_sem,Yf, *]at hm;subst hm;exact⟨.inl (.inr rfl),fun _ hx=>by have:=hLk pb hx;omega⟩
 clear hK K;rw[Xy];have uJ:AF S' pb k w (Km.setCell ⟨pb,0,none⟩ (.int .i64 k)):=
  ⟨uG.trans ⟨fun b hb=>hh b fun e=>by have:=hSl b hb;omega,by simp[Z1],rfl⟩,by unfold Z1;simp only[Zag,if_pos,mL,Option.map_some];rfl,by simpa[Z1]using uI⟩
 have uK:WgLive 206 (n+5) (Km.setCell ⟨pb,0,none⟩ (.int .i64 k)):=WgLive.of_heap uH (hh _ (Ne.symm hpW));generalize Km.setCell ⟨pb,0,none⟩ (.int .i64 k)=qV at*;clear uG uH ae8 mL ae9 uI hh;have hAK:F8 206 (n+5) (fun b=>S' b∨b=pb) (AF S' pb k w):=mI eM hpW;have hF:AF S' pb k w qV∧WgLive 206 (n+5) qV:=⟨uJ,uK⟩;clear uJ uK;refine A7.GM (n:=50) ?_;have rl:= @Ab 206 (n+5) _ _ hAK
 u_c Zf rl hF
 u_c Zn rl hF
 u_reg rl hF
 u_in rl hF
 refine goes_call rfl rfl (by k_ne) rfl Tryz.TY.f_add (nm_add Tryz.link) rfl ⟨by u_nil,?_⟩
 walk_nrmf addFn
 have hP:= @qU Tryz.link Zd Tryz.TY (n+5) (n+3) _ _ hAK Pay Next;simp only[body_add,addFn,Zw]at hP;refine Qp (hP (mT:=12) (fun qW uL uM=>?_) _ hF) (by omega);clear hP hF;have hF:AF S' pb k w qW∧WgLive 206 (n+5) qW:=⟨uL,uM⟩;clear uL uM
 walk_nrm
 u_c Zf rl hF
 u_reg rl hF
 u_op rl hF
 refine ZQ fun aea r=>?_;replace hF:=rl hF r;clear r;obtain⟨h1,h2⟩:=ae7 pb aea Gz hF.1.lt hF.1.base hF.2 hF.1.cell;refine⟨rfl,_,_,?_,h1,h2⟩;rw[stepG_spawn (d:=call156 (n+5) (n+1) pb n (n+2) (n+4)) (w':=aea) (f:=.func 156) (c:=Ic (n+5) (n+1) pb n (n+2) (n+4)) rfl rfl (by decide) (by simp[go_sem,call156,zS,Ic,ptr,Di]) rfl];simp[listed,go_sem,seen,zS];simp[T6,Mb,Ic,ptr,Di,TM,k5,xN,r7,r67,r8,Ok,mJ,iJ,IL,JW,Gw,D4,Dh,Dv,By,zA,Act.put]
 rfl
end
end Go.Proofs.Fit
set_option linter.unusedSimpArgs false
namespace Go.Proofs.Fit
open Go Go.Conc Go.BK Go.Pair Go.RowKit Go.Conc.Lib Go.ConcR.Gen Go.ConcN.Gen
open Go.ConcN (WgLive)
open Go.ConcR (DC0)
section
variable {P:Zp}{ty:Zs}{Wg:Nat}{Anch A A':B0}{S:Nat→Prop}
theorem iK (h:∀S g w,A S g w→A' S g w){vs:Nat}{g:Zg}{w:Zb}(x:AtW2 P ty Wg Anch A S vs g w):AtW2 P ty Wg Anch A' S vs g w:=by
 obtain⟨h0,hx⟩:=x;refine⟨h0,fun v hv hw=>⟨(hx v hv hw).1,fun BI=>?_⟩⟩;obtain⟨g',h1,m,h2⟩:=(hx v hv hw).2 BI;exact⟨g',h1,m,Es (fun g w=>h S g w) h2⟩
theorem iL (h:∀S g w,A S g w→A' S g w){g:Zg}{w:Zb}(x:AtW1 P ty Wg Anch A S g w):AtW1 P ty Wg Anch A' S g w:=by
 obtain⟨h0,hx⟩:=x;refine⟨h0,fun v hv hw=>?_⟩;obtain⟨g',h1,h2,h3⟩:=hx v hv hw;refine⟨g',h1,h2,fun BI=>?_⟩;obtain⟨m,h4⟩:=h3 BI;exact⟨m,Es (fun g w=>iK h) h4⟩
theorem iM (h:∀S g w,A S g w→A' S g w){g:Zg}{w:Zb}(x:AtKd P ty Wg A S g w):AtKd P ty Wg A' S g w:=by
 obtain⟨h0,g',h1,m,h2⟩:=x;exact⟨h0,g',h1,m,Es (fun g w=>h S g w) h2⟩
end
theorem Ol {P:Zp}{m:Bool}{ty:Zs}{Wg:Nat}{S:Nat→Prop}{St:Zg→Zb→Prop}{w₀:Zb}:∀ {n:Nat} {g:Zg} {w:Zb},Ah ty Wg S w₀ w→Goes P m (Ah ty Wg S) DC0 St n g w→Goes P m (Ah ty Wg S) DC0 (fun g w'=>Ah ty Wg S w₀ w'∧St g w') n g w:=by
 intro n
 induction n with
 |zero=>intro g w hr h w₁ r;exact⟨hr.trans r,h w₁ r⟩
 |succ n ih=>
  intro g w hr h;rcases h with h|⟨hs,h⟩
  ·exact .inl fun w₁ r=>⟨hr.trans r,h w₁ r⟩
  ·refine .inr ⟨hs,fun w₁ r=>?_⟩
   have:=h w₁ r;cases hx:Z6 P m g w₁ with
   |go g' w' es=>
    rw[hx,goes_go]at this;rw[goes_go];obtain⟨⟨rfl,rfl⟩,hg⟩:=this;exact⟨⟨rfl,rfl⟩,ih (hr.trans r) hg⟩
   |_=>rw[hx]at this;exact this.elim
theorem mM (Wg:Nat)(S:Nat→Prop):F8 206 Wg S (fun _=>True):=⟨fun _ _ _ h=>h,fun _ _ _ _ h=>h⟩
noncomputable def fp (n pb:Nat)(gv lv sv Le:Zc)(rest:List Nat):ZA:=
 (base 104).at ⟨TM n gv lv sv (Di pb) (.int .i64 2) (.bool false) (.int .i64 1) (.tuple #[]) (Mb n pb) (.int .i64 2) Le,[]⟩ (.inRegion rr rest:: [.code FG])
noncomputable def Vk (n pb:Nat)(gv lv sv:Zc)(cs:List ZA):Zg:=G (fp n pb gv lv sv (.tuple #[]) []) cs
def fq (n:Nat)(gv lv sv:Zc)(cs:List ZA):B0:=fun _ g _=>∃pb,g=Vk n pb gv lv sv cs
def RG (n:Nat)(gv lv sv:Zc)(cs:List ZA):B0:=fun S g w=>∃pb,U' Tryz.link (fun _ _=>True) (n+5) (fp n pb gv lv sv Ze [0]) cs S g w
section
variable {S:Nat→Prop}{n k:Nat}{gv lv sv:Zc}{cs:List ZA}
theorem S9:∀S g w,fq n gv lv sv cs S g w→g.status=.running:=by
 rintro S g w ⟨pb,rfl⟩
 rfl
theorem RH:∀S g w,RG n gv lv sv cs S g w→g.status=.running:=by
 rintro S g w ⟨pb,_,T,rfl,_⟩
 rfl
theorem XB:∀S g w,RG n gv lv sv cs S g w→∃m,Goes Zd true (Ah 206 (n+5) S) DC0 (AtW1 Zd 206 (n+5) (fq n gv lv sv cs) (RG n gv lv sv cs) S) m g w:=by
 rintro S g w ⟨pb,h⟩;obtain⟨m,hm⟩:=cm (L:=Tryz.link) (P:=Zd) Tryz.TY (Wg:=n+5) (F:=fun _ _=>True) (Anch:=fq n gv lv sv cs) (b₀:=base 104) (mT:=0) (fun S _ w _ _=>by
  intro w₁ _;refine⟨pb,?_⟩;simp[Vk,fp,rr,D4,Gw,Dh,Dv,By,zA,Act.put,TM]) S g w h
 exact⟨m,Es (fun g w=>iL fun S g w h=>⟨pb,h⟩) hm⟩
theorem RI (hk:k<2){pb:Nat}{Ld Le:Zc}(w:Zb):Goes Zd true (Ah 206 (n+5) S) DC0 (fun g w'=>DM S w w'∧(WgLive 206 (n+5) w→WgLive 206 (n+5) w')∧g=FH (TM n gv lv sv (Di pb) (.int .i64 ((k:Int)+1)) (.bool true) (.int .i64 k) (.tuple #[]) (Mb n pb) (.int .i64 ((k:Int)+1)) Le) cs) 12 (T6 n pb k gv lv sv Ld Le cs) w:=by
 have hF:Ah 206 (n+5) S w w:=Ah.refl w;have h0:(0:Int)≤k:=by omega
 have h1:(k:Int)<2:=by omega
 have rl:∀ {a b:Zb},Ah 206 (n+5) S w a→Ah 206 (n+5) S a b→Ah 206 (n+5) S w b:=fun h r=>h.trans r;simp only[T6,k5,xN,r7,r67,r8,Ok,mJ,iJ,IL,JW,Gw,TM,D4,Dh,Dv,By,zA,Zw]
 u_c Zf rl hF
 u_c stepG_inBlock rl hF
 u_reg rl hF
 u_op rl hF
 u_op rl hF
 u_c Zf rl hF
 u_c stepG_inLoop rl hF
 refine ZQ fun _ r=>⟨(rl hF r).base,(rl hF r).live,?_⟩;have hw:IntKind.i64.wrap ((k:Int)+1)=k+1:=IntWalk.i64_in _ (by omega);rw[hw];simp[FH,IL,JW,Gw,TM,D4,Dh,Dv,By,zA]
theorem iN {pb:Nat}(w:Zb)(Kq:WgLive 206 (n+5) w):
  Goes Zd true (Ah 206 (n+5) S) DC0 (AtKd Zd 206 (n+5) (RG n gv lv sv cs) S) 30 (FH (TM n gv lv sv (Di pb) (.int .i64 2) (.bool true) (.int .i64 1) (.tuple #[]) (Mb n pb) (.int .i64 2) Ze) cs) w:=by
 have hF:=Kq;simp only[FH,IL,JW,Gw,TM,D4,Dh,Dv,By,zA,Zw]
 u_c Zn Af hF
 u_reg Af hF
 u_op Af hF
 u_c Zf Af hF
 u_c Zn Af hF
 u_cond false Af hF
 u_exit Af hF
 u_c Zn Af hF
 u_reg Af hF
 u_in Af hF
 refine goes_call rfl rfl (by k_ne) rfl Tryz.TY.f_wait (nm_wait Tryz.link) rfl ⟨by u_nil,?_⟩
 walk_nrmf waitFn
 have hP:= @cr Tryz.link Zd Tryz.TY (n+5) (fun _ _=>True) S (mM _ _);simp only[body_wait,waitFn,Zw]at hP;refine Qp (Es (fun g w h=>iM (fun S g w h=>⟨pb,?_⟩) h) (hP _ ⟨trivial,hF⟩)) (by omega);simpa[fp,rr,FG,D4,Gw,Dh,Dv,By,zA,TM]using h
theorem XC {L:Nat→Prop}{Pay:Nat→FA}(w:Zb)(Kq:WgLive 206 (n+5) w)(hW:n+5<w.heap.size)(eM:¬S (n+5))(hSl:∀b,S b→b<w.heap.size)(hL:∀b,L b→b<w.heap.size)
  (xl:∀(k pb:Nat) (S':Nat→Prop) (w':Zb),k<2→(∀b,S b→S' b)→S' pb→(∀b,S' b→S b∨w.heap.size≤b)→(∀b,S' b→b<w'.heap.size)→DM S w w'→WgLive 206 (n+5) w'→w'.heap[pb]?=some (.cells #[.int .i64 k] 3 (0,0))→w.heap.size≤pb→
   A7 Zd false 206 (n+5) S' (Pair.AtSend Zd 206 (n+5) (n+3) (Pay k)) S' (born Zd (call156 (n+5) (n+1) pb n (n+2) (n+4))) w'):
  A7 Zd true 206 (n+5) L (AtKdS Zd 206 (n+5) (n+3) (Pay 0) (ui Zd 206 (n+5) (n+3) Pay 2 (RG n gv lv sv cs) 1)) S (G ((base 104).at ⟨T1 n gv lv sv,[]⟩ [.code Dh]) cs) w:=by
 have h0:A7 Zd true 206 (n+5) L (fun S' g w'=>S'=S∧Ah 206 (n+5) S w w'∧g=FH (TM n gv lv sv Ze (.int .i64 0) Ze Ze Ze Ze Ze Ze) cs) S (G ((base 104).at ⟨T1 n gv lv sv,[]⟩ [.code Dh]) cs) w:=
  A7.GM (n:=8) (Es (fun g w' h=>⟨rfl,h⟩) (Ol (Ah.refl w) (iI (S:=S) (n:=n) (gv:=gv) (lv:=lv) (sv:=sv) (cs:=cs) (Wg:=n+5) w)))
 refine h0.bind fun S₀ ain w₀ B3=>?_;obtain⟨rfl,ft,rfl⟩:=B3 w₀ (Ah.refl w₀);clear h0 B3;have mN:=ft.base.size;refine T7 (k:=0) (by omega) w₀ (ft.live Kq) (by omega) eM (fun b hb=>Zl (hSl b hb) mN) (fun b hb=>Zl (hL b hb) mN) fun Mc w₁ lz UY MY Xz aeb=>?_;have aje:=MY.size;have Kd:∀b,S₀ b∨b=Mc→b<w₁.heap.size:=by
  rintro b (hb|rfl)
  ·have:=hSl b hb;omega
  ·exact UY
 refine⟨xl 0 Mc _ w₁ (by omega) (fun b hb=>.inl hb) (.inr rfl) (fun b hb=>hb.imp id fun e=>by omega) Kd (ft.base.trans MY) Xz aeb (by omega),?_⟩;show A7 _ _ _ _ _ _ _ _ _;have h1:A7 Zd true 206 (n+5) (fun b=>S₀ b∨b=Mc) (fun S' g w'=>S'=(fun b=>S₀ b∨b=Mc)∧Ah 206 (n+5) (fun b=>S₀ b∨b=Mc) w₁ w'∧g=FH (TM n gv lv sv (Di Mc) (.int .i64 1) (.bool true) (.int .i64 0) (.tuple #[]) (Mb n Mc) (.int .i64 1) Ze) cs) (fun b=>S₀ b∨b=Mc) (T6 n Mc 0 gv lv sv Ze Ze cs) w₁:=
  A7.GM (n:=12) (Es (fun g w' h=>⟨rfl,h.1,h.2.2.2⟩) (Ol (Ah.refl w₁) (RI (S:=fun b=>S₀ b∨b=Mc) (n:=n) (k:=0) (by omega) w₁)))
 refine h1.bind fun S' g w₂ B3=>?_;obtain⟨rfl,Fo,rfl⟩:=B3 w₂ (Ah.refl w₂);clear h1 B3;have Vl:=Fo.base.size;refine T7 (k:=1) (by omega) w₂ (Fo.live Xz) (by omega) (fun h=>h.elim eM fun e=>by omega) (fun b hb=>Zl (Kd b hb) Vl) (fun b hb=>Zl (Kd b hb) Vl) fun Vm DL hp3 hp4 T8 XA fi=>?_;have mO:=T8.size;have hR:DM S₀ w DL:=(ft.base.trans MY).trans (⟨fun b hb=>(T8.same b (.inl hb)).trans (Fo.base.same b (.inl hb)),Zx Vl mO,T8.os.trans Fo.base.os⟩);refine⟨xl 1 Vm _ DL (by omega) (fun b hb=>.inl (.inl hb)) (.inr rfl) (fun b hb=>?_) (fun b hb=>?_) hR XA fi (by omega),?_⟩
 ·rcases hb with(hb|hb)|hb
  ·exact .inl hb
  ·exact .inr (by omega)
  ·exact .inr (by omega)
 ·rcases hb with hb|hb
  ·exact Zl (Kd b hb) (Zx Vl mO)
  ·omega
 show A7 _ _ _ _ _ _ _ _ _;have h2:A7 Zd true 206 (n+5) (fun b=>(S₀ b∨b=Mc)∨b=Vm) (fun S' g w'=>S'=(fun b=>(S₀ b∨b=Mc)∨b=Vm)∧Ah 206 (n+5) (fun b=>(S₀ b∨b=Mc)∨b=Vm) DL w'∧g=FH (TM n gv lv sv (Di Vm) (.int .i64 2) (.bool true) (.int .i64 1) (.tuple #[]) (Mb n Vm) (.int .i64 2) Ze) cs) (fun b=>(S₀ b∨b=Mc)∨b=Vm) (T6 n Vm 1 gv lv sv (.int .i64 1) Ze cs) DL:=
  A7.GM (n:=12) (Es (fun g w' h=>⟨rfl,h.1,h.2.2.2⟩) (Ol (Ah.refl DL) (RI (S:=fun b=>(S₀ b∨b=Mc)∨b=Vm) (n:=n) (k:=1) (by omega) DL)))
 refine h2.bind fun S' g Km B3=>?_;obtain⟨rfl,Rj,rfl⟩:=B3 Km (Ah.refl Km);exact A7.GM (iN Km (Rj.live XA))
end
end Go.Proofs.Fit
set_option linter.unusedSimpArgs false
namespace Go.Proofs.Fit
open Go Go.Conc Go.ConcX Go.RowKit Go.Conc.Lib Go.ConcX.Gen
noncomputable def Lx:Code:=Dv (Dv FG)
noncomputable def Jg:Code:=JW (Dv (Gw Lx))
noncomputable def Jh:Code:=Dv Lx
noncomputable def Pu:Array Oper:=match Gw Jg with| .region _ ops _=>ops|_=> #[]
noncomputable def KY:Code:=Dv Jg
noncomputable def xO:List Item:=[.code KY,.inLoop Jg,.inBlock 2,.code Jh]
def TJ (n:Nat)(gv lv sv x9 Oj Mv Mw L_ Ma Ld Le iO T9 Vn mP mQ br XD XE XF XG XH XI:Zc):Array Zc:=
 #[gv,lv,sv,Di n,Di (n+1),Di (n+2),.slice none 0 0,Di (n+4),Di (n+5),x9,iO,T9,.chan (some (n+3)),Oj,Mv,Mw,L_,Ma,Ld,Le,Vn,mP,mQ,br,XD,XE,XF,XG,XH,XI,Ze,Ze]
noncomputable def JJ (T:Array Zc)(cs:List ZA):Zg:=G ((base 104).at ⟨T,[]⟩ (.inRegion Pu [0,1]::xO)) cs
theorem fA {Shun:Loc→Prop}{B:Nat}(r:Nat)(wr:Bool)(hB:r<B):EvL Shun B ⟨.obj r,wr,true⟩:=by
 cases wr
 ·refine⟨fun x hx _=>?_,by simp,by simp,?_⟩
  ·simp only[ZK,zV,ZI]at hx
   subst hx;simp
  ·simp only[ZK,MemAct.low,Loc.low];exact hB
 ·refine⟨fun x hx _=>?_,by simp,by simp,?_⟩
  ·simp only[ZK,zV]at hx
   cases hx
  ·simp only[ZK,MemAct.low];exact hB
theorem cG {Shun:Loc→Prop}{B n pb r s:Nat}{W:Zb}{gv lv sv x9 Oj Mv Mw L_ Ma Ld:Zc}{buf:Array Zc}{tm:Bool}{cs:List ZA}
  (hS:∀a:Addr,a.block=n+4→¬Shun (.cell a)) (hB:n+4<B) (hB':n+3<B) (hc:W.cell? ⟨n+4,0,none⟩=some (.chan (some (n+3)))) (ho:W.heap[n+3]?=some (.chan 2 buf false s r tm)) (Az:n+4<W.heap.size):
  Goes Zd true AtRel (DE (EvL Shun B)) (fun g w=>g=JJ (TJ n gv lv sv x9 Oj Mv Mw L_ Ma Ld (.tuple #[]) (Di W.heap.size) Ze (.chan (some (n+3))) (.chan (some (n+3))) Ze Ze Ze Ze Ze Ze Ze Ze) cs∧∃d,w=((W.setChan (n+3) 2 buf true s r tm).alloc (.cells #[.slice none 0 0,.slice none 0 0] 210)).at d) 20
   (G ((base 104).at ⟨TM n gv lv sv x9 Oj Mv Mw L_ Ma Ld (.tuple #[]),[]⟩ (.inRegion rr []:: [.code FG])) cs) W:=by
 simp only[TM,Di,FG,D4,Dh,Dv,By,zA,Zw]
 l_c Zf
 l_c Zn
 l_reg
 i_opw (hS _ rfl)
 l_in
 rename_i dd;refine zm rfl rfl (by decide) (fun K hK=>?_);have fB:=fun(d:Nat) (es:Array ZU)=>events_close_open (P:=Zd) (w:=W.at d) (es:=es) #[197] 0 (r:=n+3) ho;have hrn:=fun(d:Nat)=>run_close_open (P:=Zd) (w:=W.at d) #[197] 0 (r:=n+3) ho
 go_simp
 refine hK _ ((W.setChan (n+3) 2 buf true s r tm).at dd) ⟨fun e he=>?_,?_⟩
 ·have hm:=zy he
  simp[go_sem, *]at hm;rcases hm with rfl|rfl
  ·exact fA _ _ hB'
  ·exact fA _ _ hB'
 clear hK K fB hrn
 l_c Zf
 l_c Zn
 l_reg
 i_opw (fun h=>h)
 l_c Zf
 have hz:(W.setChan (n+3) 2 buf true s r tm).heap.size=W.heap.size:=size_setChan _ _ _ _ _ _ _ _;have Oh:((W.setChan (n+3) 2 buf true s r tm).alloc (.cells #[.slice none 0 0,.slice none 0 0] 210)).cell? ⟨n+4,0,none⟩=some (.chan (some (n+3))):=by
  refine(zo (w:=W) (a:=⟨n+4,0,none⟩) ?_).trans hc;rw[zx _ _ _ (by rw[hz];exact Az)];exact Zk (by show n+3≠n+4;omega)
 rw[hz];clear hc ho
 l_c Zn
 l_c Zn
 l_reg
 i_opw (hS _ rfl)
 l_c Zf
 l_c stepG_block
 l_c stepG_loop
 l_c Zn
 l_reg
 refine ZQ (fun w₁ BJ=>?_);obtain⟨d,hd⟩:=BJ;subst hd;simp only[alloc_at,setCell_at,at_at];refine⟨?_,_,rfl⟩;simp[JJ,TJ,Di,Pu,xO,KY,Jg,Jh,Lx,JW,Gw,FG,D4,Dh,Dv,By,zA]
end Go.Proofs.Fit
set_option linter.unusedSimpArgs false
namespace Go.Proofs.Fit
open Go Go.Conc Go.ConcX Go.RowKit Go.Conc.Lib Go.ConcX.Gen
theorem iP (P:Zp)(w:Zb)(es:Array ZU)(a:Addr)(m:Mode)(b:Option Addr)(l c:Nat):(store a (.slice b l c) m).events P w es=Yf P w es a (.slice b l c) m:=events_store P w es a _ m rfl
theorem T_ (a:Addr)(w:Zb)(es:Array ZU)(k:Int)(hk:k=0∨k=1):(Instr.indexAt 210 (.pointer (some a)) (.int .i64 k)).events Zd w es=es:=by
 unfold Instr.indexAt;rcases hk with rfl|rfl<;>simp[go_sem,Tryz.runUnderlying210]
noncomputable def KZ (T:Array Zc)(cs:List ZA):Zg:=G ((base 104).at ⟨T,[]⟩ (.inRegion Pu [1]::xO)) cs
theorem cH {Shun:Loc→Prop}{B n K k:Nat}{W:Zb}{gv lv sv x9 Oj Mv Mw L_ Ma Ld Le T9 Vn mP br XD XE XF XG XH XI:Zc}{va:Option Addr}{vn vc:Nat}{old:Zc}{cs:List ZA}
  (hk:k=0∨k=1) (hS:∀a:Addr,a.block=K∨W.heap.size≤a.block→¬Shun (.cell a)) (hB:W.heap.size<B) (hK:K<W.heap.size) (hc:W.cell? ⟨K,k,none⟩=some old) (hf:W.frozen? ⟨K,k,none⟩=false):
  Goes Zd true AtRel (DE (EvL Shun B)) (fun g w=>g=JJ (TJ n gv lv sv x9 Oj Mv Mw L_ Ma Ld Le (Di K) (Di W.heap.size) Vn mP (.tuple #[.agg #[.int .i64 k,.slice va vn vc],.bool true]) (.bool true) (.agg #[.int .i64 k,.slice va vn vc]) (Di W.heap.size) (.int .i64 k) (.pointer (some ⟨W.heap.size,1,none⟩)) (.slice va vn vc) (.pointer (some ⟨K,k,none⟩))) cs∧∃d,w=((W.alloc (.cells #[.int .i64 k,.slice va vn vc] 209)).setCell ⟨K,k,none⟩ (.slice va vn vc)).at d) 30
   (KZ (TJ n gv lv sv x9 Oj Mv Mw L_ Ma Ld Le (Di K) T9 Vn mP (.tuple #[.agg #[.int .i64 k,.slice va vn vc],.bool true]) br XD XE XF XG XH XI) cs) W:=by
 have Oh:∀o,(W.alloc o).cell? ⟨K,k,none⟩=some old:=fun o=>(zo (w:=W) (a:=⟨K,k,none⟩) (zx _ _ _ hK)).trans hc;have Lf:∀o,(W.alloc o).frozen? ⟨K,k,none⟩=false:=fun o=>(World.frozen?_of_block (w:=W) (a:=⟨K,k,none⟩) (zx _ _ _ hK)).trans hf;clear hc hf;simp only[KZ,TJ,Di,Pu,xO,KY,Jg,Jh,Lx,JW,Gw,FG,D4,Dh,Dv,By,zA,Zw];rcases hk with rfl|rfl
 all_goals
  have he1:=iP Zd;have he2:=fun a w es=>T_ a w es 0 (.inl rfl);have he3:=fun a w es=>T_ a w es 1 (.inr rfl)
  l_op
  l_c Zf
  l_c Zn
  l_cond true
  l_c ZL
  l_c stepG_block
  l_c Zn
  l_reg
  l_op
  i_opw (fun h=>h)
  l_in
  refine zm rfl rfl (by decide) (fun K' hK'=>?_)
  go_simp
  refine hK' _ _ ⟨fun e he=>?_,?_⟩
  ·have hm:=zy he
   simp[go_sem,Yf, *]at hm;rcases hm with rfl|rfl
   ·exact Yy _ _ (hS _ (.inr (Zj _))) (by show W.heap.size<B;omega)
   ·exact Yy _ _ (hS _ (.inr (Zj _))) (by show W.heap.size<B;omega)
  clear hK' K'
  l_c Zf
  l_reg
  l_op
  i_opw (hS _ (by simp))
  l_op
  i_opw (hS _ (by simp))
  l_op
  i_opw (hS _ (.inl rfl))
  l_c Zf
  l_c stepG_inBlock
  l_c stepG_inLoop
  l_c Zn
  l_reg
  refine ZQ (fun w₁ BJ=>?_);obtain⟨d,hd⟩:=BJ;subst hd;simp only[alloc_at,setCell_at,at_at];refine⟨?_,_,rfl⟩;simp[JJ,Di,Pu,xO,KY,Jg,Jh,Lx,JW,Gw,FG,D4,Dh,Dv,By,zA]
end Go.Proofs.Fit
set_option linter.unusedSimpArgs false
namespace Go.Proofs.Fit
open Go Go.Conc Go.ConcX Go.RowKit Go.Conc.Lib Go.ConcX.Gen
theorem aed:(Tryz.f159.name== "runtime.NumGoroutine")=false:=by kernel_rfl
noncomputable def mR:Array Oper:=match Gw Jh with| .region _ ops _=>ops|_=> #[]
noncomputable def XJ (T:Array Zc)(rest:List Nat):ZA:=(base 104).at ⟨T,[]⟩ (.inRegion mR rest:: [.code .ret])
def TK (n:Nat)(gv lv sv x9 Oj Mv Mw L_ Ma Ld Le iO T9 Vn mP mQ br XD XE XF XG XH XI x30 x31:Zc):Array Zc:=
 #[gv,lv,sv,Di n,Di (n+1),Di (n+2),.slice none 0 0,Di (n+4),Di (n+5),x9,iO,T9,.chan (some (n+3)),Oj,Mv,Mw,L_,Ma,Ld,Le,Vn,mP,mQ,br,XD,XE,XF,XG,XH,XI,x30,x31]
theorem Vo (K:Nat)(w:Zb):(Zay 210 (.pointer (some ⟨K,0,none⟩)) none none none).run Zd w=.ok (.slice (some ⟨K,0,none⟩) 2 2) w:=by
 unfold Zay Instr.sliceBounds;simp[go_sem,Tryz.runUnderlying210,Addr.add]
theorem Vp (K:Nat)(w:Zb)(es:Array ZU):(Zay 210 (.pointer (some ⟨K,0,none⟩)) none none none).events Zd w es=es:=by
 unfold Zay Instr.sliceBounds;simp[go_sem,Tryz.runUnderlying210]
theorem iQ {Shun:Loc→Prop}{B n K:Nat}{W:Zb}{gv lv sv x9 Oj Mv Mw L_ Ma Ld Le T9 Vn mP br XD XE XF XG XH XI z:Zc}{cs:List ZA}:
  Goes Zd true AtRel (DE (EvL Shun B)) (fun g w=>g=G (Zq Zd 159 #[.slice (some ⟨K,0,none⟩) 2 2] .normal) (XJ (TK n gv lv sv x9 Oj Mv Mw L_ Ma Ld Le (Di K) T9 Vn mP (.tuple #[z,.bool false]) (.bool false) XD XE XF XG XH XI (.slice (some ⟨K,0,none⟩) 2 2) Ze) [1,2]::cs)∧∃d,w=W.at d) 20
   (KZ (TJ n gv lv sv x9 Oj Mv Mw L_ Ma Ld Le (Di K) T9 Vn mP (.tuple #[z,.bool false]) br XD XE XF XG XH XI) cs) W:=by
 have h1:=Vo K;have h2:=Vp K;simp only[KZ,TJ,Di,Pu,xO,KY,Jg,Jh,Lx,JW,Gw,FG,D4,Dh,Dv,By,zA,Zw]
 l_op
 l_c Zf
 l_c Zn
 l_cond false
 l_in
 refine goes_exit rfl ?_;refine⟨by u_nil,?_⟩
 l_c Zn
 l_reg
 l_op
 l_call Tryz.func159 aed Tryz.f159
 refine ZQ (fun w₁ BJ=>?_);obtain⟨d,hd⟩:=BJ;subst hd;simp only[alloc_at,setCell_at,at_at];refine⟨?_,_,rfl⟩;have he:Zq Zd 159 #[.slice (some ⟨K,0,none⟩) 2 2] .normal=(base 159).at ⟨#[.slice (some ⟨K,0,none⟩) 2 2,Ze,Ze,Ze,Ze,Ze,Ze,Ze,Ze,Ze,Ze,Ze,Ze,Ze,Ze,Ze,Ze,Ze,Ze,Ze,Ze,Ze,Ze,Ze,Ze,Ze,Ze,Ze,Ze,Ze,Ze,Ze,Ze,Ze,Ze,Ze],[]⟩ [.code (Tryz.f159.body.getD .skip)]:=by
  simp[Zq,Frame.at,base,Tryz.func159,Tryz.f159]
 rw[he];simp[Tryz.f159,XJ,TK,Di,mR,Jh,Lx,JW,Gw,FG,D4,Dh,Dv,By,zA]
theorem mS {Shun:Loc→Prop}{B n:Nat}{W:Zb}{gv lv sv x9 Oj Mv Mw L_ Ma Ld Le iO T9 Vn mP mQ br XD XE XF XG XH XI x30 x31 v:Zc}{f':ZA}{cs:List ZA}:
  Goes Zd true AtRel (DE (EvL Shun B)) (fun g w=>g=G (f'.finish v) cs∧∃d,w=W.at d) 10
   (G ((XJ (TK n gv lv sv x9 Oj Mv Mw L_ Ma Ld Le iO T9 Vn mP mQ br XD XE XF XG XH XI x30 x31) [1,2]).finish v) (f'::cs)) W:=by
 simp only[XJ,TK,Di,mR,Jh,Lx,JW,Gw,FG,D4,Dh,Dv,By,zA,Zw];rw[Frame.finish_at]
 walk_nrm
 l_op
 l_c Zf
 l_c zO
 refine Goes.step rfl (fun w₁ BJ=>?_);obtain⟨dd,OZ⟩:=BJ;subst OZ;rw[stepG_leave (v:=v) (fn:=zA) rfl rfl Tryz.func104 (results_tmp Tryz.results104 _ _ _) (events_results_tmp Tryz.results104 _ _)];simp only[goes_go];refine⟨by u_nil,?_⟩;refine ZQ (fun w₁ BJ=>?_);obtain⟨d,hd⟩:=BJ;subst hd;exact⟨rfl,d,rfl⟩
end Go.Proofs.Fit
namespace Go.BK
open Go Go.Conc
open Go.ConcN (sumTo upd sumTo_upd upd_ne upd_same Deaf_still)
section
variable {P:Zp}{Shun:Loc→Prop}{B:Nat}{a:Zg}
structure Lone (P:Zp)(Shun:Loc→Prop)(B:Nat)(a:Zg)(gs:Array Zg)(t:YL)(q:Nat→Nat):Prop where
 main:gs[0]?=some a
 old:Leavers P t gs q
 past:Past Shun B t
theorem Pv (Bs:a.status=.running):∀(M:Nat) (gs:Array Zg) (w:Zb) (sl:Option (Nat×Nat)) (t:YL) (q:Nat→Nat),sumTo gs.size q≤M→Lone P Shun B a gs t q→
  ∃(N:Nat) (gs':Array Zg) (d:Nat) (Iy:Option (Nat×Nat)) (t':YL) (q':Nat→Nat) (GH:Nat) (Dy:Option (Nat×Nat)),
   runNT P N (Yg gs w sl) t=(.next (Yg gs' (w.at d) Iy),t')∧Lone P Shun B a gs' t' q'∧stepT P (Yg gs' (w.at d) Iy)=runT P (Yg gs' (w.at GH) Dy) 0:=by
 intro M
 induction M with
 |zero=>?_
 |succ M ih=>?_
 all_goals
  intro gs w sl t q hM hX;obtain⟨h0,hL,hP⟩:=hX;have w_:∀g∈gs,awake g:=by
   intro g hg;obtain⟨i,hi,rfl⟩:=Array.mem_iff_getElem.1 hg;rcases Yr i with rfl|Ff
   ·have:gs[0]=a:=by simpa[ZB hi]using h0
    rw[this];exact awake_of (.inl Bs)
   ·exact awake_of ((hL.old i _ Ff (ZB hi)).status.elim .inl fun x=>.inr (.inr x))
  obtain⟨i,g,d,Iy,hi,hg,B3⟩:=crowd_pick (P:=P) (w:=w) (sl:=sl) w_ ⟨0,a,h0,Bs⟩;rcases Yr i with rfl|Ff
  ·exact⟨0,gs,w.drawn,sl,t,q,d,Iy,rfl,⟨h0,hL,hP⟩,B3⟩
 ·exfalso
  have Az:i<gs.size:=(Za.1 hi).1;have hq:=hL.old i g Ff hi;have:=sumTo_upd q 0 id Az;simp only[id]at this;have h1:(sumTo gs.size fun x=>q x)=sumTo gs.size q:=rfl;rw[h1]at this;have:q i=0:=by omega
  rw[this]at hq;rw[hq.1]at hg;cases hg
 ·have hq:=hL.old i g Ff hi
  have hi0:(i==0)=false:=by simp;omega
  have Az:i<gs.size:=(Za.1 hi).1;cases lG:q i with
  |zero=>rw[lG]at hq;rw[hq.1]at hg;cases hg
  |succ k=>
   rw[lG]at hq;rcases hq with⟨hf,_⟩|⟨_,g',es,hm,lH,P2⟩
   ·rw[hf]at hg;cases hg
   have Fl:=runT_crowd_go (P:=P) (sl:=Iy) (i:=i) hi (by rw[hi0];exact lH (w.at d));have D1:((gs.map (woken P g g' (w.at d))).setIfInBounds i g').size=gs.size:=by simp
   have acJ:sumTo gs.size (upd q i k)+(k+1)=sumTo gs.size q+k:=by
    have:=sumTo_upd q k id Az;simpa[lG]using this
   obtain⟨N,gs',d',lF,t',q',GH,Dy,hr,hX',hs⟩:=ih ((gs.map (woken P g g' (w.at d))).setIfInBounds i g') (w.at d) Iy (t++ZE i g.frame.fn g.frame.place es) (upd q i k) (by rw[D1];omega)
    ⟨by
     have BI:i≠0:=by omega
     rw[Zk BI,Yi,h0];simp[woken_run Bs],
    ⟨fun j x hj hx=>by
     by_cases Lc:i=j
     ·subst Lc
      rw[Z9 (by simpa using Az)]at hx;obtain rfl:=Z2 hx;rw[upd_same,Deaf_own];exact P2
     ·rw[Zk Lc,Yi]at hx
      obtain⟨y,hy,rfl⟩:=zd.1 hx;have hqj:=hL.old j y hj hy;rw[woken_quitsD hqj,upd_ne q k (Ne.symm Lc),YN t Lc _ (fun op hop=>by obtain⟨e,_,rfl⟩:=ZJ hop;rfl)];exact hqj,fun j hj=>by
     rw[YN t (g':=i) (by simp at hj;omega) _ (fun op hop=>by obtain⟨e,_,rfl⟩:=ZJ hop;rfl)];exact hL.above j (by simpa using hj)⟩,hP.mute (by omega) hm⟩
   exact⟨N+1,gs',d',lF,t',q',GH,Dy,by simp only[runNT,B3,Fl];exact hr,hX',hs⟩
theorem Lone.app {gs:Array Zg}{t u:YL}{q:Nat→Nat}{a':Zg}(h:Lone P Shun B a gs t q)(hg:∀op∈u,op.g=0)(hn:∀op∈u,op.act.touch?=none)(hl:∀op∈u,op.act.low B)(hd:∀op∈u,op.act≠ .mark .disable∧op.act≠ .mark .enable):
  Lone P Shun B a' (gs.setIfInBounds 0 a') (t++u) q:=by
 have Az:0<gs.size:=(Za.1 h.main).1;refine⟨by simp[Az],⟨fun j x hj hx=>?_,fun j hj=>?_⟩,h.past.app0 hg (fun op hop b hb=>by rw[hn op hop]at hb;cases hb) (Deaf_still t 0 u hd) hl⟩
 ·rw[Zk (by omega)]at hx
  rw[Deaf_still t j u hd];exact h.old.old j x hj hx
 ·rw[Deaf_still t j u hd]
  exact h.old.above j (by simpa using hj)
theorem Lone.mU {gs:Array Zg}{t:YL}{q:Nat→Nat}(h:Lone P Shun B a gs t q)(c:Nat)(send:Bool):partners (gs.setIfInBounds 0 ph) c send=[]:=by
 refine Go.Conc.partners_nil fun j g hj=>?_;rcases getElem?_stand gs 0 j g hj with⟨_,rfl⟩|⟨BI,hg⟩
 ·exact offersAt_ph _ _
 ·refine offersAt_of_not_blocked ?_ _ _
  rcases(h.old.old j g (by omega) hg).status with hs|hs<;>rw[hs]<;>simp
section
variable {gs:Array Zg}{w:Zb}{sl:Option (Nat×Nat)}{t:YL}{q:Nat→Nat}{Om:Zg}{c cap s r:Nat}{buf:Array Zc}{closed tm:Bool}{z:Zc}
theorem XK (Bs:a.status=.running)(hX:Lone P Shun B a gs t q)(hs:∀d,Z6 P true a (w.at d)=.comm Om #[rcase c z] true (.recv true) (w.at d) #[])(hc:w.heap[c]?=some (.chan cap buf closed s r tm))(hb:0<buf.size)(hB:c<B):
  ∃N gs' d Iy t' q',runNT P N (Yg gs w sl) t=(.next (Yg gs' ((w.setChan c cap (buf.extract 1 buf.size) closed s (r+1) tm).at d) Iy),t')∧Lone P Shun B (YQ Om (.tuple #[buf.getD 0 Ze,.bool true])) gs' t' q':=by
 obtain⟨N,CI,xP,CJ,D2,Gs,GH,Dy,hr,Ga,B3⟩:=Pv Bs _ gs w sl t q (Zj _) hX;have hT:=crowd_recv_buf (P:=P) (w:=w.at GH) (w₁:=w.at GH) (sl:=Dy) (i:=0) Ga.main (hs GH) (show(w.at GH).heap[c]?=_ from hc) hb (Ga.mU c true);rw[finishComm_recv]at hT;refine⟨N+1,_,GH,Dy,_,Gs,?_,Ga.app (a':=YQ Om (recvd true (buf.getD 0 Ze) true)) (u:=ZE 0 a.frame.fn a.frame.place #[]++ #[{g:=0,fn:=Om.frame.fn,pos:=Om.frame.place,act:=.recv c r cap}, {g:=0,fn:=Om.frame.fn,pos:=Om.frame.place,act:=.recvDone c r}]) ?_ ?_ ?_ ?_⟩
 ·rw[runNT_add _ _ _ _ _ _ hr]
  simp only[runNT,B3,hT]
  rfl
 all_goals
  intro op hop;simp[ZE]at hop;rcases hop with rfl|rfl
 all_goals first
  |rfl
  |exact hB
  |simp
theorem Oo (Bs:a.status=.running)(hX:Lone P Shun B a gs t q)(hs:∀d,Z6 P true a (w.at d)=.comm Om #[rcase c z] true (.recv true) (w.at d) #[])(hc:w.heap[c]?=some (.chan cap #[] true s r tm))(hB:c<B):
  ∃N gs' d Iy t' q',runNT P N (Yg gs w sl) t=(.next (Yg gs' (w.at d) Iy),t')∧Lone P Shun B (YQ Om (.tuple #[z,.bool false])) gs' t' q':=by
 obtain⟨N,CI,xP,CJ,D2,Gs,GH,Dy,hr,Ga,B3⟩:=Pv Bs _ gs w sl t q (Zj _) hX;have hT:=crowd_recv_closed (P:=P) (w:=w.at GH) (w₁:=w.at GH) (sl:=Dy) (i:=0) Ga.main (hs GH) (show(w.at GH).heap[c]?=_ from hc) (Ga.mU c true);rw[finishComm_recv]at hT;refine⟨N+1,_,GH,Dy,_,Gs,?_,Ga.app (a':=YQ Om (recvd true z false)) (u:=ZE 0 a.frame.fn a.frame.place #[]++ #[{g:=0,fn:=Om.frame.fn,pos:=Om.frame.place,act:=.recvClosed c}]) ?_ ?_ ?_ ?_⟩
 ·rw[runNT_add _ _ _ _ _ _ hr]
  simp only[runNT,B3,hT]
 all_goals
  intro op hop;simp[ZE]at hop;subst hop
 all_goals first
  |rfl
  |exact hB
  |simp
theorem B6 {D:Zb→Zb→Array ZU→Prop}{St:Zg→Zb→Prop}{n:Nat}(hD:∀w w' es,D w w' es→∀e∈es,EvL Shun B e)(hX:Lone P Shun B a gs t q)(hG:Goes P true AtRel D St n a w):
  ∃N gs' a' w' Iy t' q',runNT P N (Yg gs w sl) t=(.next (Yg gs' w' Iy),t')∧St a' w'∧Lone P Shun B a' gs' t' q':=by
 obtain⟨N,gs',a',w',Iy,t',q',h1,h2,h3,h4,h5,h6⟩:=walk_beside (P:=P) hD _ n gs a w sl t q (Zj _) hX.main hX.old hX.past hG;exact⟨N,gs',a',w',Iy,t',q',h1,h4,h3,h5,h6⟩
end
end
end Go.BK
set_option linter.unusedSimpArgs false
namespace Go.Proofs.Fit
open Go Go.Conc Go.ConcX Go.RowKit Go.Conc.Lib Go.ConcX.Gen
theorem ru:∃i,Tryz.prog.info? 209=some i∧i.bytes=32:=by
 have h:(Tryz.prog.info? 209).map (·.bytes)=some 32:=by kernel_rfl
 obtain⟨i,h1,h2⟩:=zd.1 h;exact⟨i,h1,h2⟩
theorem mV {Shun:Loc→Prop}{W:Zb}{gc:Array Zc}{a1 a2:Option Addr}{l1 c1 l2 c2:Nat}{cs:List ZA}(hS:∀a:Addr,W.heap.size≤a.block→¬Shun (.cell a)):
  Goes Zd true AtRel (DE (EvL Shun (W.heap.size+6))) (fun g w=>g=G ((base 104).at ⟨T1 W.heap.size (.agg gc) (.slice a1 l1 c1) (.slice a2 l2 c2),[]⟩ [.code Dh]) cs∧∃d,w=(W1 W gc (.slice a1 l1 c1) (.slice a2 l2 c2)).at d) 20
   (G ((base 104).at ⟨#[.agg gc,.slice a1 l1 c1,.slice a2 l2 c2,Ze,Ze,Ze,Ze,Ze,Ze,Ze,Ze,Ze,Ze,Ze,Ze,Ze,Ze,Ze,Ze,Ze,Ze,Ze,Ze,Ze,Ze,Ze,Ze,Ze,Ze,Ze,Ze,Ze],[]⟩ [.code By]) cs) W:=by
 obtain⟨i,hi,hb⟩:=ru;have hm:∀w,(Instr.makeChan 197 (.int .i64 2)).run Zd w=.ok (.chan (some w.heap.size)) (w.alloc (.chan 2 #[] false 0 0 false)):=fun w=>run_makeChan (P:=Zd) (w:=w) (t:=197) Tryz.underlying197 hi .i64 2 (by omega) (by rw[hb];omega);have hme:∀w es,(Instr.makeChan 197 (.int .i64 2)).events Zd w es=es:=fun w es=>events_makeChan (P:=Zd) (w:=w) (t:=197) Tryz.underlying197 hi .i64 2 (by omega) (by rw[hb];omega) es;clear hi hb;simp only[By,zA,Zw]
 l_c Zn
 l_reg
 i_opw (hS _ (by simp<;>omega))
 i_opw (hS _ (by simp<;>omega))
 i_opw (hS _ (by simp<;>omega))
 l_op
 l_c Zf
 l_c Zn
 l_reg
 i_opw (hS _ (by simp<;>omega))
 i_opw (hS _ (by simp<;>omega))
 i_opw (hS _ (by simp<;>omega))
 l_c Zf
 l_c Zn
 l_reg
 i_opw (hS _ (by simp<;>omega))
 l_c Zf
 refine ZQ (fun w₁ BJ=>?_);obtain⟨d,hd⟩:=BJ;subst hd;simp only[alloc_at,setCell_at,at_at];refine⟨?_,_,rfl⟩;simp[T1,TM,Dh,Dv,By,zA,Di]
end Go.Proofs.Fit
