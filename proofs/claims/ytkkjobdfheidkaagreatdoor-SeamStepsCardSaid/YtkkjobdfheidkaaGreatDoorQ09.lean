/- Part of a proof. -/
import Derived.Test.YtkkjobdfheidkaaGreatDoorQ07
import Derived.Test.YtkkjobdfheidkaaGreatDoorQ08
set_option maxRecDepth 100000
set_option maxHeartbeats 6400000
open Array renaming getElem?_eq_some_iff→Za,getD_eq_getD_getElem?→YO,getElem?_setIfInBounds_ne→Zk,getElem?_setIfInBounds_self_of_lt→Z9,getElem?_modify→Zag,replicate→Yd,getElem?_map→Yi,getElem?_eq_getElem→ZB,mem_of_getElem?→zM
open Go renaming World→Zb,Value→Zc,PanicEntry→zc,Program→Zp,Frame→ZA,FuncId→YT,Goroutine→Zg,TypeId→Zs,stepG→Z6,Trace→YL,undef→Ze
open Go.Builtin renaming zeroCells→Zr
open Go.Conc renaming served→YQ,crowd→Yg
open Go.Frame renaming raise→ZaN,enter→Zq
open Go.Proofs.Tryz renaming prog→Zd,f104→zA
open Go.Question renaming appendCap→zu
open Go.RowKit renaming Below→Zm
open Go.RowKit.Below renaming heap_setCell→Y9,heap_alloc→zx
open Go.World renaming cell?→zJ,shape?→Ys,frozen?→Yu,cell?_of_block→zo,setCell→Z1,block_lt_of_cell?→ZH
open List renaming getElem?_map→ZaT,mem_of_getElem?→Yh,getElem?_eq_some_iff→Zo,getElem?_take_of_lt→ZW,getElem?_toArray→ZY
open List.cons renaming inj→zC
open Nat renaming eq_zero_or_pos→Yr,lt_of_lt_of_le→Zl,le_refl→Zj,zero_le→Zt,le_trans→Zx
open Option renaming map_eq_some_iff→zd,getD_some→Zw
namespace Go.Proofs.Fit
open Go Go.Conc Go.BK Go.RowKit
theorem RJ {w:Zb}{p:Addr}{v:Zc}(h:w.cell? p=some v):∃c e f,w.heap[p.block]?=some (.cells c e f):=by
 unfold zJ at h;cases ho:w.heap[p.block]? with
 |none=>rw[ho]at h;cases h
 |some o=>
  rw[ho]at h;cases o with
  |cells c e f=>exact⟨c,e,f,rfl⟩
  |_=>cases h
theorem Cg.back {w w':Zb}(h:Cg w w'){p:Addr}{v:Zc}(hc:w'.cell? p=some v):w.cell? p=some v:=by
 obtain⟨c,e,f,hb⟩:=RJ hc;have GL:=(h.same _ _ _ _).1 hb;rw[←hc];unfold zJ;rw[hb,GL]
def uO (b:Nat)(w:Zb)(err XL:Zc):Prop:=
 (err=.nilIface∨∃n:Int,err=.iface 121 (.agg #[.int .i64 n]))∧∃t n,XL=.iface 123 (.pointer (some ⟨t,0,none⟩))∧t<b∧w.heap[t]?=some (.cells #[.int .i64 n] 121 (0,0))∧0<b∧w.cell? ⟨0,0,none⟩=some (.iface 220 (.agg #[.pointer (some ⟨1,117,none⟩)]))
def PX (x:List zc)(w:Zb):Prop:=
 (∃gc la ln lc sv b rows fit y,x= {v:=Vh #[.agg gc,.slice la ln lc,sv,L8 b],recovered:=false}::y∧L9 b w gc la ln lc sv rows fit)∨
 (∃err XL b y,x= {v:=Vh #[err,XL,L8 b],recovered:=false}::y∧uO b w err XL)
theorem PX.blind:C2 PX:=fun x w t h=>by
 rcases h with⟨gc,la,ln,lc,sv,b,rows,fit,y,e,h⟩|⟨err,XL,b,y,e,h⟩
 ·exact .inl ⟨gc,la,ln,lc,sv,b,rows,fit,y,e,h.Au fun _ _ _ h=>h⟩
 ·exact .inr ⟨err,XL,b,y,e,h⟩
theorem Ly {Q:Zp}{x y:List zc}(h:(CV Q).raise x=(CV Q).raise y):x=y:=by
 have:=congrArg Frame.mode h;simpa[CV,ZaN]using this
section
variable {B:Fj}{fn:Func}{Post:Zc→Zb→Prop}{ρ:Ren}{f f':ZA}{cs cs':List ZA}{w:Zb}
theorem RK (hl:B.lcs=[CV Lp])(JR:B.K.seg=false)(hb:C2 Post){P:Zp}(E:Env Lp P ρ)(hS:F6 Lp P B ρ (f::cs) (f'::cs'))(hw:∃w',WR ρ w w'){k:YT}{a:Array Zc}(hM:Cm Lp B true (Er Lp B fn Post PX) (AO (Zq Lp k a .normal) (f::cs)) w)
  {X:Zc} (hc:Calls Lp k a (tp w fun _ _=>0) fun e w'=>e=.panicked [{v:=X,recovered:=false}]∧Zm w.heap.size (tp w fun _ _=>0) w'):
  ∃w₂ y,PX ({v:=X,recovered:=false}::y) w₂∧EE w.heap.size w₂ w∧∀t c e f,t<w.heap.size→w₂.heap[t]?=some (.cells c e f)→w.heap[t]?=some (.cells c e f):=by
 have K:C8 Lp B true (Er Lp B fn Post PX):=Iw hl hb PX.blind;have G:=Kp (P':=Lp) (fn:=fn) (Post:=Post) (PostX:=PX) hl;have hcs:cs≠ []:=by
  have:=hS.deep;rw[hl]at this;intro e;rw[e]at this;simp at this
 have NT:Calls Lp k a (tp w fun _ _=>0) (eH (fun _ _=>False) fun x w'=>x=[{v:=X,recovered:=false}]∧Zm w.heap.size (tp w fun _ _=>0) w'):=hc.mono fun e w' ⟨he,hb⟩=>by rw[he];exact⟨rfl,hb⟩
 rcases Rn G hcs (hM.Dg K.blind _) NT with⟨_,_,hF,_⟩|⟨x,w₁,⟨rfl,GN⟩,hp⟩
 ·exact hF.elim
 obtain⟨w',hw⟩:=hw;have hD:DW ρ w₁:=(hw.dw).Au (fun b b' hb=>(hw.lt hb).1) (fun b hb=>GN.block b hb);obtain⟨w₂,y,aee,B3⟩:=S3 K G.Kh hl JR (me (P':=Lp)) E hS hM hp.Dg hD;rcases B3 with⟨ha,fB,_⟩|⟨x,hx,Vq⟩
 ·exfalso
  rw[hl]at fB;cases fB
 ·have e: [{v:=X,recovered:=false}]++y=x:=Ly (congrArg (fun g:Zg=>g.frame) hx)
  subst e;refine⟨w₂,y,Vq,fun p v hp hc=>?_,fun t c e f ht hc=>?_⟩
  ·have:=Cg.back aee hc
   rw[GN.cell hp]at this;exact this
  ·have:=(aee.same _ _ _ _).1 hc
   rw[GN.block t ht]at this;exact this
end
theorem aef (t:Array Zc)(h:t.size=3):∃a0 a1 a2,t= #[a0,a1,a2]:=by
 obtain⟨l⟩:=t
 match l,h with
 | [a0,a1,a2],_=>exact⟨a0,a1,a2,rfl⟩
theorem M7 {c c':Array Zc}{y y':List zc}(h:({v:=Vh c,recovered:=false}:zc)::y= {v:=Vh c',recovered:=false}::y'):c=c':=by
 have h1:=congrArg PanicEntry.v (zC h).1;unfold Vh at h1
 injection h1 with _ h2
 injection h2
theorem RL {b b':Nat}(h:L8 b=L8 b'):b=b':=by
 unfold L8 at h
 injection h with h1
 injection h1 with h2
 injection h2
section
variable {B:Fj}{fn:Func}{Post:Zc→Zb→Prop}{ρ:Ren}{f f':ZA}{cs cs':List ZA}{w:Zb}
theorem xQ (hl:B.lcs=[CV Lp])(JR:B.K.seg=false)(hb:C2 Post){P:Zp}(E:Env Lp P ρ)(hS:F6 Lp P B ρ (f::cs) (f'::cs'))(hw:∃w',WR ρ w w'){a:Array Zc}(ha:a.size=3)(hM:Cm Lp B true (Er Lp B fn Post PX) (AO (Zq Lp 104 a .normal) (f::cs)) w):
  ∃gc la ln lc sv rows fit,a= #[.agg gc,.slice la ln lc,sv]∧L9 w.heap.size w gc la ln lc sv rows fit:=by
 obtain⟨g,l,s,rfl⟩:=aef a ha;have hc:=RB g l s (tp w fun _ _=>0) (by show((((zu 1 0 3).cut 0:Nat):Int)==1)=true;decide);obtain⟨w₂,y,Vq,kp,_⟩:=RK hl JR hb E hS hw hM hc;rcases Vq with⟨gc,la,ln,lc,sv,b,rows,fit,y',e,h⟩|⟨err,XL,b,y',e,_⟩
 ·have e4:=congrArg Array.toList (M7 e)
  obtain⟨e1,e5⟩:=zC e4;obtain⟨e2,e6⟩:=zC e5;obtain⟨e3,e7⟩:=zC e6;have e8:=RL (zC e7).1;have e9:(tp w fun _ _=>0).heap.size=w.heap.size:=rfl;rw[e9]at e8;subst e1 e2 e3 e8;refine⟨gc,la,ln,lc,s,rows,fit,rfl,⟨h.small,h.cap,h.eY,fun i hi=>?_,h.row,h.mH,fun i hi w₁ MT=>h.fits i hi w₁ fun p v hp hc=>MT p v hp (kp p v hp hc)⟩⟩;obtain⟨ad,h1,h2,h3⟩:=h.there i hi;exact⟨ad,h1,h2,kp _ _ (by rw[Ct];exact h2) h3⟩
 ·exfalso
  have:=congrArg Array.size (M7 e);simp at this
theorem fC (hl:B.lcs=[CV Lp])(hb:C2 Post)(JI:B.lcs.length<(f::cs).length){gc:Array Zc}{la:Option Addr}{ln lc:Nat}{sv:Zc}{rows:Nat→Zc}{fit:Nat→Bool}(H:L9 w.heap.size w gc la ln lc sv rows fit)
  (hM:Cm Lp B true (Er Lp B fn Post PX) (AO (Zq Lp 104 #[.agg gc,.slice la ln lc,sv] .normal) (f::cs)) w) {k:Nat} (hk:(CN rows fit 0 ln).length≤k) (hkm:k≤maxLen):
  ∃v w₁,Zm w.heap.size w w₁∧((CN rows fit 0 ln).length=0→v=.slice none 0 0)∧(0<(CN rows fit 0 ln).length→∃r,v=.slice (some ⟨r,0,none⟩) (CN rows fit 0 ln).length k∧w.heap.size≤r∧Room w₁ r k (CN rows fit 0 ln))∧
   Cw Lp B true (AO (Zq Lp 104 #[.agg gc,.slice la ln lc,sv] .normal) (f::cs)) w (AO (f.finish v) cs) w₁:=by
 have K:C8 Lp B true (Er Lp B fn Post PX):=Iw hl hb PX.blind;have G:=Kp (P':=Lp) (fn:=fn) (Post:=Post) (PostX:=PX) hl
 let T:Tape:=fun _ q=>match q with| .appendCap _ _ e=>if e=3 then 1 else k - (CN rows fit 0 ln).length|_=>0
 have hc:=Xx (w:=tp w T) (H.Au (w₁:=tp w T) fun _ _ _ h=>h) (by show((((zu 1 0 3).cut 1:Nat):Int)==1)=false;decide);have NT:Calls Lp 104 #[.agg gc,.slice la ln lc,sv] (tp w T) (eH (fun v w₁=>Zm w.heap.size (tp w T) w₁∧((CN rows fit 0 ln).length=0→v=.slice none 0 0)∧(0<(CN rows fit 0 ln).length→∃r,v=.slice (some ⟨r,0,none⟩) (CN rows fit 0 ln).length k∧w.heap.size≤r∧Room w₁ r k (CN rows fit 0 ln))) fun _ _=>False):=hc.mono fun e w' h=>by
  obtain⟨w₁,h1,h2,h3⟩:=h;rcases Yr (CN rows fit 0 ln).length with hz|hp
  ·obtain⟨rfl,rfl⟩:=h2 hz
   exact⟨h1,fun _=>rfl,fun h=>absurd h (by omega)⟩
  ·obtain⟨rfl,rfl⟩:=h3 hp
   have ht:w₁.tape=T:=h1.tape;have hg:grownCap w₁ (CN rows fit 0 ln).length 0 22=k:=by
    unfold grownCap;rw[ht];show(CN rows fit 0 ln).length+(k - (CN rows fit 0 ln).length) % (2^63 - (CN rows fit 0 ln).length)=k;have I3:maxLen=9223372036854775807:=rfl;rw[Nat.mod_eq_of_lt (by omega)];omega
   rw[hg];refine⟨(h1.drew).alloc h1.size _,fun h=>absurd h (by omega),fun _=>⟨w₁.heap.size,rfl,h1.size,hk,?_⟩⟩;have e:=heap_alloc_new w₁.drew (.cells ((CN rows fit 0 ln).toArray++Zr #[.slice none 0 0] (k - (CN rows fit 0 ln).length)) 22);rw[←Ie];exact e
 obtain⟨v,w₁,⟨h1,h2,h3⟩,hp⟩:=Ej G Lp.func104 rfl JI (hM.Dg K.blind T) NT;exact⟨v,tp w₁ w.tape,⟨h1.os,rfl,h1.output,h1.size,h1.block⟩,h2,h3,(hp w.tape).Dg⟩
end
end Go.Proofs.Fit
namespace Go.Proofs.Fit
open Go Go.Conc Go.BK Go.Pair Go.RowKit
open Go.ConcN (WgLive)
theorem WR.uP {ρ:Ren}{w w':Zb}(h:WR ρ w w'){a a':Addr}(ha:AR ρ a a'){v:Zc}(hv:w.cell? a=some v):∃v',w'.cell? a'=some v'∧VR ρ v v':=by
 obtain⟨V_,h2⟩:=h.ib;obtain⟨b,c⟩:=ha;obtain⟨o,o',p1,p2,p3⟩:=h.obj _ _ b;obtain⟨oo,oo',q1,q2,q3⟩:=h2.obj _ _ b;unfold zJ at*;rw[p1]at hv;rw[p2];cases p3 with
 | @cells x x' e f f' hx hf=>
  dsimp only at hv⊢;rw[c.1,c.2];split at hv
  ·cases hv
  ·rw[if_neg ‹_›]
   exact hx.get hv
 |_=>cases hv
theorem iR {w:Zb}{c:Array Zc}{e:Zs}:Cn (Ey w (.cells c e (0,c.size))) w.heap.size:=by
 refine⟨e,c.size,?_,fun off ho=>?_⟩
 ·unfold Ys
  rw[Hz]
 ·unfold Yu
  rw[Hz];simp;omega
theorem cI {w:Zb}{o:Obj}{b:Nat}(h:Cn w b∨∃q,Quiet q∧w.heap[b]?=some q):Cn (Ey w o) b∨∃q,Quiet q∧(Ey w o).heap[b]?=some q:=by
 rcases h with h|⟨q,h1,h2⟩
 ·exact .inl (Xe h)
 ·exact .inr ⟨q,h1,by rw[Hy w o (Za.1 h2).1];exact h2⟩
theorem ry {ρ:Ren}{r c:Nat}(h:ρ.PT r c):(ρ.ext r c h) r=some c:=if_pos rfl
theorem Vr {ρ:Ren}{r c:Nat}(h:ρ.PT r c){b d:Nat}(hb:(ρ.ext r c h) b=some d):ρ b=some d∨(b=r∧d=c):=by
 have h':(if b=r then some c else ρ b)=some d:=hb;split at h'
 ·cases h';exact .inr ⟨‹_›,rfl⟩
 ·exact .inl h'
theorem M8 {ρ:Ren}{wl w₀:Zb}(h:WR ρ wl w₀){r c:Nat}(hr:wl.heap.size=r)(aji:∀b,ρ b≠some c)(hlr:ρ.ok.low<r)(hlc:ρ.ok.low<c){a a':Array Zc}{e:Zs}{f:Nat×Nat}(hc:w₀.heap[c]?=some (.cells a' e f))(hf:f.2≤f.1)(ha:BN ρ a a')
  (Rz:∀b d,ρ b=some d→Cn wl b∨∃o,Quiet o∧wl.heap[b]?=some o):
  ∃(xR:Ren) (uQ:Zb),WR xR uQ w₀∧uQ.heap.size=r+1∧(∀b,b<r→uQ.heap[b]?=wl.heap[b]?)∧uQ.heap[r]?=some (.cells a e (0,a.size))∧ρ.le xR∧xR r=some c∧(∀b d,xR b=some d→ρ b=some d∨(b=r∧d=c))∧
   ∀b d,xR b=some d→Cn uQ b∨∃o,Quiet o∧uQ.heap[b]?=some o:=by
 subst hr;have f1:ρ.PT wl.heap.size c:=⟨aji,hlr,hlc⟩;refine⟨ρ.ext _ _ f1,Ey wl (.cells a e (0,a.size)),h.push f1 hc (.cells _ (ha.mono (U5 h f1)) (.inr (.inl hf))),U4 _ _,fun b hb=>Hy _ _ hb,Hz _ _,U5 h f1,ry f1,fun b d hb=>Vr f1 hb,fun b d hb=>?_⟩;rcases Vr f1 hb with hb|⟨rfl,rfl⟩
 ·exact cI (Rz b d hb)
 ·exact .inl iR
structure uR (ρ:Ren)(w wl:Zb)(Ua:Ren)(gc:Array Zc)(la:Option Addr)(ln lc:Nat)(sv:Zc)(k n pb s0:Nat):Prop where
 size:wl.heap.size=s0+4∧s0=w.heap.size
 old:∀b:Nat,b<w.heap.size→wl.heap[b]?=(Xd w).heap[b]?
 hl:wl.heap[s0]?=some (.cells #[.slice la ln lc] 27 (0,1))
 hp:wl.heap[s0+1]?=some (.cells #[.int .i64 k] 3 (0,1))
 hg:wl.heap[s0+2]?=some (.cells gc 112 (0,gc.size))
 hs:wl.heap[s0+3]?=some (.cells #[sv] 23 (0,1))
 sub:∀b c,ρ b=some c→Ua b=some c
 ok:Ua.ok=okW
 good:Ua.good=A_ Zd okW BO false
 sp:Ua.sp=fun _=>false
 nl:Ua s0=some (n+1)
 np:Ua (s0+1)=some pb
 ng:Ua (s0+2)=some n
 ns:Ua (s0+3)=some (n+2)
 only:∀b c,Ua b=some c→ρ b=some c∨c=n+1∨c=pb∨c=n∨c=n+2
 lock:∀b c,Ua b=some c→Cn wl b∨∃o,Quiet o∧wl.heap[b]?=some o
theorem XM {ρ:Ren}(I4:ρ.ok=MZ){w w' w₀:Zb}(hw:WR ρ w w'){gc gc':Array Zc}{la bG:Option Addr}{ln lc:Nat}{sv sv':Zc}(M6:BN ρ gc gc')(uc:VR ρ (.slice la ln lc) (.slice bG ln lc))(hsv:VR ρ sv sv'){k n pb:Nat}
  (hn:w'.heap.size≤n) (hR:∀b,(∃a,ρ a=some b)→w₀.heap[b]?=w'.heap[b]?) (We:w₀.os=w'.os) (h0:∃f,w₀.heap[n]?=some (.cells gc' 112 f)∧f.2≤f.1) (h1:∃f,w₀.heap[n+1]?=some (.cells #[.slice bG ln lc] 27 f)∧f.2≤f.1)
  (h2:∃f,w₀.heap[n+2]?=some (.cells #[sv'] 23 f)∧f.2≤f.1) (hpb:w₀.heap[pb]?=some (.cells #[.int .i64 k] 3 (0,0))) (hpn:n+2<pb):
  ∃wl Ua,WR Ua wl w₀∧uR ρ w wl Ua gc la ln lc sv k n pb w.heap.size:=by
 have IE:=hw.lt ρ.base;have V9:okW.low=ρ.ok.low:=by rw[I4];rfl
 let cJ:=ρ.with okW (A_ Zd okW BO false) (fun _=>false) V9
 have hw0:WR cJ (Xd w) w':=WR.Ry (fun f hf=>by rw[I4]at hf;exact hf) hw;have ajj:WR cJ (Xd w) w₀:=⟨fun b c hb=>by
  obtain⟨o,o',p1,p2,p3⟩:=hw0.obj b c hb;exact⟨o,o',p1,by rw[hR c ⟨b,hb⟩];exact p2,p3⟩,We.trans hw0.os⟩
 have rz:ρ.sub cJ:=Rx (ρ:=ρ) (good:=A_ Zd okW BO false) (sp:=fun _=>false) (hl:=V9) (fun f hf=>by rw[I4]at hf;exact hf);have img:∀b c,cJ b=some c→c<n:=fun b c hb=>Zl (hw.lt hb).2 hn;have isz:(Xd w).heap.size=w.heap.size:=lN w;have aeh:cJ.ok.low=ρ.ok.low:=V9;have aei:∀b d,cJ b=some d→Cn (Xd w) b∨∃o,Quiet o∧(Xd w).heap[b]?=some o:=fun b d hb=>lO (ρ:=ρ) hw hb;have ajk:∀b c,ρ b=some c→cJ b=some c:=rz.map;have aej:∀b c,cJ b=some c→ρ b=some c:=fun b c h=>h;have xS:cJ.ok=okW∧cJ.good=A_ Zd okW BO false∧cJ.sp=fun _=>false:=⟨rfl,rfl,rfl⟩;have ajl:=uc.sub rz;have ajm:=BN.sub rz M6;have ajn:=hsv.sub rz;generalize cJ=cJ at*;obtain⟨fl,JH,US⟩:=h1;obtain⟨fg,Gu,hfg⟩:=h0;obtain⟨fs,DJ,xT⟩:=h2;have JQ:∀x:Nat,cJ.ok.low<w.heap.size+x:=fun x=>by rw[aeh];omega
 have P3:cJ.ok.low<n:=by rw[aeh];omega
 obtain⟨xR,uQ,w1,z1,ajo,at1,le1,ajq,inv1,aek⟩:=M8 (a:= #[.slice la ln lc]) ajj isz (c:=n+1) (fun b hb=>by have:=img _ _ hb;omega) (JQ 0) (by omega) JH US (Bt.single ajl) aei;have i1:∀b c,xR b=some c→c<n∨c=n+1:=fun b c hb=>(inv1 b c hb).elim (fun h=>.inl (img _ _ h)) fun h=>.inr h.2;obtain⟨ρ2,wl2,w2,z2,ael,at2,le2,ajr,inv2,aem⟩:=M8 (a:= #[.int .i64 k]) w1 z1 (c:=pb) (fun b hb=>by have:=i1 _ _ hb;omega) (by rw[le1.2.1];exact JQ 1) (by rw[le1.2.1];omega) hpb (Zj _) (Bt.single (.int _ _)) aek;have i2:∀b c,ρ2 b=some c→c<n∨c=n+1∨c=pb:=fun b c hb=>(inv2 b c hb).elim (fun h=>(i1 _ _ h).imp id .inl) fun h=>.inr (.inr h.2);have rA:=Ren.le_trans le1 le2;obtain⟨ρ3,wl3,w3,z3,xU,at3,le3,ajt,aen,aeo⟩:=M8 (a:=gc) w2 z2 (c:=n) (fun b hb=>by have:=i2 _ _ hb;omega) (by rw[rA.2.1];exact JQ 2) (by rw[rA.2.1];omega) Gu hfg (ajm.mono rA) aem;have i3:∀b c,ρ3 b=some c→c<n∨c=n+1∨c=pb∨c=n:=fun b c hb=>(aen b c hb).elim (fun h=>(i2 _ _ h).imp id (Or.imp id .inl)) fun h=>.inr (.inr (.inr h.2));have rB:=Ren.le_trans rA le3;obtain⟨Ua,wl4,w4,z4,rC,at4,le4,aju,ajv,aep⟩:=M8 (a:= #[sv]) w3 z3 (c:=n+2) (fun b hb=>by have:=i3 _ _ hb;omega) (by rw[rB.2.1];exact JQ 3) (by rw[rB.2.1];omega) DJ xT (Bt.single (ajn.mono rB)) aeo;have rD:=Ren.le_trans rB le4;refine⟨wl4,Ua,w4,⟨z4,rfl⟩,fun b hb=>?_,?_,?_,?_,at4,fun b c hb=>rD.1 _ _ (ajk _ _ hb),?_,?_,?_,?_,?_,le4.1 _ _ ajt,aju,fun b c hb=>?_,aep⟩
 ·rw[rC b (by omega),xU b (by omega),ael b (by omega),ajo b hb]
 ·rw[rC _ (by omega),xU _ (by omega),ael _ (by omega)];exact at1
 ·rw[rC _ (by omega),xU _ (by omega)];exact at2
 ·rw[rC _ (by omega)];exact at3
 ·rw[rD.2.1];exact xS.1
 ·rw[rD.2.2.1];exact xS.2.1
 ·rw[rD.2.2.2];exact xS.2.2
 ·exact le4.1 _ _ (le3.1 _ _ (le2.1 _ _ ajq))
 ·exact le4.1 _ _ (le3.1 _ _ ajr)
 ·rcases ajv b c hb with hb|⟨_,rfl⟩
  ·rcases aen b c hb with hb|⟨_,rfl⟩
   ·rcases inv2 b c hb with hb|⟨_,rfl⟩
    ·rcases inv1 b c hb with hb|⟨_,rfl⟩
     ·exact .inl (aej _ _ hb)
     ·exact .inr (.inl rfl)
    ·exact .inr (.inr (.inl rfl))
   ·exact .inr (.inr (.inr (.inl rfl)))
  ·exact .inr (.inr (.inr (.inr rfl)))
def fD (wl:Zb)(p lo hi:Nat)(rows:Nat→Zc)(fit:Nat→Bool):Zc→Zb→Prop:=fun v w=>
 ∃v6,v=.tuple #[v6,ptr p]∧RE wl.heap.size lo hi rows fit v6 w∧∀b,b<wl.heap.size→w.heap[b]?=wl.heap[b]?
theorem fD.blind {wl:Zb}{p lo hi:Nat}{rows:Nat→Zc}{fit:Nat→Bool}:C2 (fD wl p lo hi rows fit):=fun _ _ _ h=>h
def Vs (lo hi:Nat→Nat)(AZ:Nat→Zc)(fit:Nat→Bool)(ρ:Ren)(k:Nat):FA:=fun S v w=>
 ∃(σ:Ren) (wl:Zb) (a A:Option Addr) (c:Nat),v=.agg #[.int .i64 k,.slice A (CN AZ fit (lo k) (hi k)).length c]∧σ.ok=okW∧WR σ wl w∧(∀b c,σ b=some c→S c)∧(∀b c,ρ b=some c→σ b=some c)∧
  VR σ (.slice a (CN AZ fit (lo k) (hi k)).length c) (.slice A (CN AZ fit (lo k) (hi k)).length c)∧
  ∀j u,(CN AZ fit (lo k) (hi k))[j]?=some u→∃ad,A=some ad∧(∃b,σ b=some ad.block)∧w.cell? (ad.add j)=some u
theorem Vs.rely {lo hi:Nat→Nat}{AZ:Nat→Zc}{fit:Nat→Bool}{ρ:Ren}{k:Nat}{S:Nat→Prop}{v:Zc}{w w₁:Zb}(h:Vs lo hi AZ fit ρ k S v w)(r:DM S w w₁):Vs lo hi AZ fit ρ k S v w₁:=by
 obtain⟨σ,wl,a,A,c,h1,h2,h3,h4,h5,h6,h7⟩:=h;refine⟨σ,wl,a,A,c,h1,h2,h3.rely (S:=fun c=>∃b,σ b=some c) (fun c=>Iff.rfl) ⟨fun c ⟨b,hb⟩=>r.same c (h4 b c hb),r.size,r.os⟩,h4,h5,h6,fun j u hu=>?_⟩;obtain⟨ad,e1,⟨b,e2⟩,e3⟩:=h7 j u hu;exact⟨ad,e1,⟨b,e2⟩,(zo (by rw[Ct];exact r.same _ (h4 b _ e2))).trans e3⟩
theorem M9 {rows:Nat→Zc}{fit:Nat→Bool}{lo hi j:Nat}{u:Zc}(h:(CN rows fit lo hi)[j]?=some u):∃i,lo≤i∧i<hi∧u=rows i∧∀AZ:Nat→Zc,(CN AZ fit lo hi)[j]?=some (AZ i):=by
 unfold CN at h;rw[ZaT]at h;obtain⟨i,hi1,rfl⟩:=zd.1 h;have hm:=(List.mem_filter.1 (Yh hi1)).1;rw[List.mem_range']at hm;obtain⟨x,hx,rfl⟩:=hm;refine⟨_,by omega,by omega,rfl,fun AZ=>?_⟩;unfold CN;rw[ZaT,hi1]
 rfl
theorem Qu (rows AZ:Nat→Zc)(fit:Nat→Bool)(lo hi:Nat):(CN rows fit lo hi).length=(CN AZ fit lo hi).length:=by simp[CN]
theorem VR.Gb {σ:Ren}{a:Option Addr}{n c:Nat}{x:Zc}(h:VR σ (.slice a n c) x):∃A,x=.slice A n c∧Nx σ a A:=by
 cases h with
 |slice _ _ h=>exact⟨_,rfl,h⟩
theorem WR.fE {ρ:Ren}{w w':Zb}(h:WR ρ w w'){b c o:Nat}(hb:ρ b=some c){v:Zc}(hv:w.cell? ⟨b,o,none⟩=some v):∃v',w'.cell? ⟨c,o,none⟩=some v'∧VR ρ v v':=WR.uP h (a:=⟨b,o,none⟩) (a':=⟨c,o,none⟩) ⟨hb,rfl,rfl⟩ hv
theorem add0 (g j:Nat):(⟨g,0,none⟩:Addr).add j=⟨g,j,none⟩:=by
 unfold Addr.add;by_cases h:j=0<;>simp[h]
section
variable {ρ Ua:Ren}{w wl w₀:Zb}{gc:Array Zc}{la:Option Addr}{ln lc:Nat}{sv:Zc}{k n pb s0:Nat}{rows AZ:Nat→Zc}{fit:Nat→Bool}{T₀:Nat→Prop}
theorem Vt (hw:WR Ua wl w₀)(hb:uR ρ w wl Ua gc la ln lc sv k n pb s0)(hk:k<2)(H:L9 w.heap.size w gc la ln lc sv rows fit)
  (hR:∀i,i<ln→VR ρ (rows i) (AZ i)) (hvo:∀f,ρ.ok f=true→okW f=true)
  (hT:∀b c,Ua b=some c→T₀ c) (Az:∀b,T₀ b→b<w₀.heap.size) (uS:w₀.heap[pb]?=some (.cells #[.int .i64 k] 3 (0,0))) (hf:w₀.cell? ⟨n+4,0,none⟩=some (.chan (some (n+3)))) (hfT:T₀ (n+4))
  (hWg:¬T₀ (n+5)) (xu:n+5<w₀.heap.size) (Kq:WgLive 206 (n+5) w₀):
  A7 Zd false 206 (n+5) T₀ (Pair.AtSend Zd 206 (n+5) (n+3) (Vs (fun k=>k*ln / 2) (fun k=>(k+1)*ln / 2) AZ fit ρ k)) T₀ (born Zd (call156 (n+5) (n+1) pb n (n+2) (n+4))) w₀:=by
 have FB:s0=w.heap.size:=hb.size.2;subst FB;have hcell:∀ {wl:Zb} {b:Nat} {x:Zc} {e:Zs} {f:Nat×Nat},wl.heap[b]?=some (.cells #[x] e f)→wl.cell? ⟨b,0,none⟩=some x:=fun h=>by unfold zJ;rw[h];rfl
 have H':L9 w.heap.size wl gc la ln lc sv rows fit:=H.Au fun p v hp hc=>by
  rw[←hc, ←lP w p];exact zo (hb.old _ hp)
 have Lz:=fun t=>ajb (wl:=tp wl t) (b:=w.heap.size) (l:=w.heap.size) (p:=w.heap.size+1) (g:=w.heap.size+2) (s:=w.heap.size+3) (fz:=(0,gc.size)) (H'.Au (w₁:=tp wl t) fun _ _ _ h=>h) (by show w.heap.size≤wl.heap.size;rw[hb.size.1];omega) k hk (hcell hb.hl) (hcell hb.hp) hb.hg (hcell hb.hs);have hW:=worker (Wg:=n+5) (Ch:=n+3) (f:=n+4) (T₀:=T₀) AP.twins (AP.adX hb.ok hb.good hb.sp) hb.sp AP.ib (by rw[hb.ok];exact xw) hb.nl hb.np hb.ng hb.ns hw (Post:=fD wl (w.heap.size+1) (k*ln / 2) ((k+1)*ln / 2) rows fit) fD.blind
  (fun t=>(Lz t).mono fun e w' h=>by
   obtain⟨v,rfl,h1,h2⟩:=h;exact⟨v,rfl,h1,fun b hb=>h2.block b hb⟩)
  (fun v w' h b o _ ho=>by
   obtain⟨_,_,_,h3⟩:=h;rw[h3 b (Za.1 ho).1];exact ho)
  (fun v6 v2 w' h=>by
   obtain⟨v,e,h2,_⟩:=h;have e4:=congrArg Array.toList (Value.tuple.inj e);obtain⟨e1,e5⟩:=zC e4;obtain⟨e2,_⟩:=zC e5;subst e1 e2;rcases h2.2 with⟨rfl,_⟩|⟨g,cap,_,rfl,_⟩
   ·exact⟨rfl,_,_,_,rfl⟩
   ·exact⟨rfl,_,_,_,rfl⟩)
  hb.lock hT Az (k:=k) (hcell uS) hf hfT hWg xu Kq
 refine hW.imp fun S g w₁ h=>?_;obtain⟨h0,Bl,v,z,h1,h2,h3⟩:=h;refine⟨h0,Bl,v,z,h1,?_,h3⟩;obtain⟨σ,Gy,v6,v2,v6',rfl,q1,q2,q3,q4,q5,q6,q7⟩:=h2;obtain⟨v,e,p2,p3⟩:=q6;have e4:=congrArg Array.toList (Value.tuple.inj e);obtain⟨e1,e5⟩:=zC e4;subst e1;clear e e4 e5;have sub:ρ.sub σ:=⟨fun b c JO=>q1.1 b c (hb.sub b c JO),fun f hf=>by rw[q1.2.1,hb.ok];exact hvo f hf⟩;have I4:σ.ok=okW:=q1.2.1.trans hb.ok;have Ds:∀i,i<ln→VR σ (rows i) (AZ i):=fun i hi=>(hR i hi).sub sub;rcases p2.2 with⟨rfl,hz⟩|⟨g,cap,cur,rfl,hg1,rE,uT,hg4,hg5,hg6⟩
 ·obtain⟨A,rfl,hA⟩:=VR.Gb q5
  rw[Qu rows AZ]at hz;refine⟨σ,Gy,none,A,0,?_,I4,q4,q7,sub.map,?_,fun j u hu=>?_⟩
  ·rw[hz]
  ·rw[hz];exact q5
  ·dsimp only at hu
   have:=(Zo.1 hu).1;omega
 ·obtain⟨A,rfl,hA⟩:=VR.Gb q5
  cases A with
  |none=>exact hA.elim
  |some A=>
  obtain⟨mW,XN,uU⟩:=hA;obtain⟨ab,ao,aq⟩:=A;dsimp only at mW XN uU;subst XN uU;rw[Qu rows AZ]at q5;refine⟨σ,Gy,some ⟨g,0,none⟩,some ⟨ab,0,none⟩,cap,?_,I4,q4,q7,sub.map,q5,fun j u hu=>?_⟩
  ·rw[Qu rows AZ]
  ·dsimp only at hu
   obtain⟨i,i1,i2,rfl,i4⟩:=M9 hu;have aer:i<ln:=by
    have:(k+1)*ln / 2≤ln:=by
     have:k=0∨k=1:=by omega
     rcases this with rfl|rfl<;>omega
    omega
   have hj:(cur.toList.take ((CN rows fit (k*ln / 2) ((k+1)*ln / 2)).length*1))[j]?=some (rows i):=by rw[hg6];exact i4 rows
   have hjl:=(Zo.1 hj).1;rw[List.length_take]at hjl;rw[ZW (by omega)]at hj;have hc:Gy.cell? ⟨g,j,none⟩=some (rows i):=by
    rw[cell_of_row Gy g j cur 22 (0,0) rE];rw[←hj];simp
   obtain⟨x,x1,x2⟩:=WR.fE q4 mW hc;obtain⟨ra,rn,rc,hr⟩:=H.row i aer;have hri:=Ds i aer;rw[hr]at x2 hri;have e:=VR.NZ x2 hri;subst e;exact⟨⟨ab,0,none⟩,rfl,⟨g,mW⟩,by rw[add0];exact x1⟩
end
end Go.Proofs.Fit
set_option linter.unusedSimpArgs false
namespace Go.Proofs.Fit
open Go Go.Conc Go.BK Go.RowKit
def Vu:Zc:=.agg #[.int .i64 0,.slice none 0 0]
section
variable {n:Nat}{gv lv sv x9 Oj Mv Mw L_ Ma Ld Le iO T9 Vn mQ br XD XE XF XG XH XI:Zc}{cs:List ZA}
theorem Ub (w:Zb):Z6 Zd true (JJ (TJ n gv lv sv x9 Oj Mv Mw L_ Ma Ld Le iO T9 Vn (.chan (some (n+3))) mQ br XD XE XF XG XH XI) cs) w=
  .comm (JJ (TJ n gv lv sv x9 Oj Mv Mw L_ Ma Ld Le iO T9 Vn (.chan (some (n+3))) mQ br XD XE XF XG XH XI) cs) #[rcase (n+3) Vu] true (.recv true) w #[]:=by
 unfold JJ;simp only[Pu,xO,KY,Jg,Jh,Lx,JW,Gw,FG,D4,Dh,Dv,By,zA,Zw];rw[stepG_comm (w':=w) (cases:= #[rcase (n+3) Vu]) (blocking:=true) (shape:=.recv true) rfl rfl (by decide) (by simp[go_sem,TJ,rcase,Vu,Tryz.runUnderlying197,Tryz.zeroValue209])];simp[listed,go_sem,TJ,Tryz.runUnderlying197,Tryz.zeroValue209,seen]
theorem Pw (v:Zc):YQ (JJ (TJ n gv lv sv x9 Oj Mv Mw L_ Ma Ld Le iO T9 Vn (.chan (some (n+3))) mQ br XD XE XF XG XH XI) cs) v=
  KZ (TJ n gv lv sv x9 Oj Mv Mw L_ Ma Ld Le iO T9 Vn (.chan (some (n+3))) v br XD XE XF XG XH XI) cs:=by
 unfold JJ KZ;rw[T3];simp[Pu,Jg,Lx,JW,Gw,FG,D4,Dh,Dv,By,zA,TJ,Act.put]
end
structure Drn (W0:Zb)(n K:Nat)(w:Zb)(buf:Array Zc)(a b:Zc)(sz:Nat):Prop where
 size:w.heap.size=sz∧K<sz
 old:∀c,c<K→c≠n+3→w.heap[c]?=W0.heap[c]?
 chan:∃s r tm,w.heap[n+3]?=some (.chan 2 buf true s r tm)
 kept:w.heap[K]?=some (.cells #[a,b] 210 (0,0))
 os:w.os=W0.os
 tape:w.tape=W0.tape
 output:w.output=W0.output
def rF (k:Nat)(v a b:Zc):Zc×Zc:=if k=0 then(v,b) else(a,v)
section
variable {Shun:Loc→Prop}{B n K k:Nat}{W0 W:Zb}{gv lv sv x9 Oj Mv Mw L_ Ma Ld Le T9 Vn mQ br XD XE XF XG XH XI a b:Zc}{va:Option Addr}{vn vc sz:Nat}{buf:Array Zc}{cs:List ZA}{gs:Array Zg}{t:YL}{q:Nat→Nat}{sl:Option (Nat×Nat)}
theorem K0 (hX:Lone Zd Shun B (JJ (TJ n gv lv sv x9 Oj Mv Mw L_ Ma Ld Le (Di K) T9 Vn (.chan (some (n+3))) mQ br XD XE XF XG XH XI) cs) gs t q)(hk:k=0∨k=1)
  (hS:∀p:Addr,K≤p.block→¬Shun (.cell p)) (hB:sz<B) (hn:n+3<K) (hD:Drn W0 n K W buf a b sz) (hb:buf[0]?=some (.agg #[.int .i64 k,.slice va vn vc])):
  ∃N gs' w' Iy t' q' xV xW xX xY xZ x_ yd ye yf,runNT Zd N (Yg gs W sl) t=(.next (Yg gs' w' Iy),t')∧Lone Zd Shun B (JJ (TJ n gv lv sv x9 Oj Mv Mw L_ Ma Ld Le (Di K) xV Vn (.chan (some (n+3))) xW xX xY xZ x_ yd ye yf) cs) gs' t' q'∧
   Drn W0 n K w' (buf.extract 1 buf.size) (rF k (.slice va vn vc) a b).1 (rF k (.slice va vn vc) a b).2 (sz+1):=by
 obtain⟨s,r,tm,hc⟩:=hD.chan;have hbs:0<buf.size:=(Za.1 hb).1;have uV:buf.getD 0 Ze=.agg #[.int .i64 k,.slice va vn vc]:=by rw[YO,hb];rfl
 obtain⟨N,CI,d,CJ,D2,Gs,hr,Ga⟩:=XK (sl:=sl) (c:=n+3) rfl hX (fun d=>Ub (W.at d)) hc hbs (by have:=hD.size;omega);rw[uV,Pw]at Ga;have fF:K≠n+3:=by omega
 have kq:((W.setChan (n+3) 2 (buf.extract 1 buf.size) true s (r+1) tm).at d).heap[K]?=some (.cells #[a,b] 210 (0,0)):=by
  rw[←hD.kept];exact Zk (by omega)
 have hz:((W.setChan (n+3) 2 (buf.extract 1 buf.size) true s (r+1) tm).at d).heap.size=sz:=(size_setChan _ _ _ _ _ _ _ _).trans hD.size.1;have pB:∀c,c≠n+3→((W.setChan (n+3) 2 (buf.extract 1 buf.size) true s (r+1) tm).at d).heap[c]?=W.heap[c]? :=fun c hc=>Zk (Ne.symm hc);have SM:((W.setChan (n+3) 2 (buf.extract 1 buf.size) true s (r+1) tm).at d).heap[n+3]?=some (.chan 2 (buf.extract 1 buf.size) true s (r+1) tm):=Z9 (Za.1 hc).1;have We:((W.setChan (n+3) 2 (buf.extract 1 buf.size) true s (r+1) tm).at d).os=W0.os∧((W.setChan (n+3) 2 (buf.extract 1 buf.size) true s (r+1) tm).at d).tape=W0.tape∧((W.setChan (n+3) 2 (buf.extract 1 buf.size) true s (r+1) tm).at d).output=W0.output:=⟨hD.os,hD.tape,hD.output⟩;generalize (W.setChan (n+3) 2 (buf.extract 1 buf.size) true s (r+1) tm).at d=W1 at*;have hcell:∃old,W1.cell? ⟨K,k,none⟩=some old:=by
  rcases hk with rfl|rfl
  ·exact⟨a,by unfold zJ;rw[kq];rfl⟩
  ·exact⟨b,by unfold zJ;rw[kq];rfl⟩
 obtain⟨old,hcell⟩:=hcell;have wD:W1.frozen? ⟨K,k,none⟩=false:=by unfold Yu;rw[kq];simp
 have D1:=hD.size;obtain⟨LR,Iz,Om,w₂,Dy,Hs,S0,Fo,⟨rfl,GH,rfl⟩,Ks⟩:=B6 (sl:=CJ) (fun _ _ _ h=>h) Ga (cH (Shun:=Shun) (B:=B) (W:=W1) hk (fun p hp=>hS p (by rcases hp with hp|hp<;>omega)) (by omega) (by omega) hcell wD);refine⟨N+LR,Iz,_,Dy,Hs,S0,_,_,_,_,_,_,_,_,_,by rw[Go.BK.runNT_add _ _ _ _ _ _ hr];exact Fo,Ks,?_⟩;have hh:∀c,c<sz→c≠K→(((W1.alloc (.cells #[.int .i64 k,.slice va vn vc] 209)).setCell ⟨K,k,none⟩ (.slice va vn vc)).at GH).heap[c]?=W1.heap[c]? :=fun c h1 h2=>by
  show((W1.alloc _).setCell _ _).heap[c]?=_;rw[Y9 _ _ _ _ h2,zx _ _ _ (by omega)]
 refine⟨⟨?_,by omega⟩,fun c h1 h2=>?_,⟨s,r+1,tm,?_⟩,?_,We.1,We.2.1,We.2.2⟩
 ·show((W1.alloc _).setCell _ _).heap.size=_
  simp[Z1,hz]
 ·rw[hh c (by omega) (by omega),pB c h2,hD.old c h1 h2]
 ·rw[hh _ (by omega) (by omega)];exact SM
 ·show((W1.alloc _).setCell _ _).heap[K]?=_
  unfold Z1;have e:(W1.alloc (.cells #[.int .i64 k,.slice va vn vc] 209)).heap[K]?=some (.cells #[a,b] 210 (0,0)):=by rw[zx _ _ _ (by omega)];exact kq
  simp only[Zag,if_pos,e,Option.map_some];rcases hk with rfl|rfl<;>rfl
theorem drain {A0 A1:Option Addr}{n0 n1 c0 c1 pb:Nat}{ord:List Nat}{vals:Nat→Zc}{tm:Bool}(hX:Lone Zd Shun B (Vk n pb gv lv sv cs) gs t q)(iB:ord=[0,1]∨ord=[1,0])
  (Wb:vals 0=.agg #[.int .i64 0,.slice A0 n0 c0]) (mY:vals 1=.agg #[.int .i64 1,.slice A1 n1 c1]) (lT:W.heap[n+3]?=some (.chan 2 (ord.map vals).toArray false 2 0 tm)) (hc:W.cell? ⟨n+4,0,none⟩=some (.chan (some (n+3))))
  (hS:∀p:Addr,p.block=n+4∨W.heap.size≤p.block→¬Shun (.cell p)) (hB:W.heap.size+3≤B):
  ∃N gs' w' Iy t' q' T,runNT Zd N (Yg gs W sl) t=(.next (Yg gs' w' Iy),t')∧Lone Zd Shun B (AO (Zq Zd 159 #[.slice (some ⟨W.heap.size,0,none⟩) 2 2] .normal) (XJ T [1,2]::cs)) gs' t' q'∧
   (∃y9 y10 xV y13 y14 y15 y16 y17 y18 y19 y20 y21 xW xX xY xZ x_ yd ye yf y30 y31,T=TK n gv lv sv y9 y13 y14 y15 y16 y17 y18 y19 y10 xV y20 y21 xW xX xY xZ x_ yd ye yf y30 y31)∧
   Drn W n W.heap.size w' #[] (.slice A0 n0 c0) (.slice A1 n1 c1) (W.heap.size+3):=by
 have Az:n+4<W.heap.size:=ZH W _ hc;obtain⟨N,CI,cu,w₁,CJ,D2,Gs,fG,⟨rfl,xP,rfl⟩,Ga⟩:=B6 (sl:=sl) (fun _ _ _ h=>h) hX (cG (pb:=pb) (Shun:=Shun) (B:=B) (W:=W) (fun p hp=>hS p (.inl hp)) (by omega) (by omega) hc lT Az);have hz:((W.setChan (n+3) 2 (ord.map vals).toArray true 2 0 tm)).heap.size=W.heap.size:=size_setChan _ _ _ _ _ _ _ _;have hD:Drn W n W.heap.size (((W.setChan (n+3) 2 (ord.map vals).toArray true 2 0 tm).alloc (.cells #[.slice none 0 0,.slice none 0 0] 210)).at xP) (ord.map vals).toArray (.slice none 0 0) (.slice none 0 0) (W.heap.size+1):=by
  refine⟨⟨?_,by omega⟩,fun c h1 h2=>?_,⟨2,0,tm,?_⟩,?_,rfl,rfl,rfl⟩
  ·show((W.setChan _ _ _ _ _ _ _).alloc _).heap.size=_
   simp[hz]
  ·show((W.setChan _ _ _ _ _ _ _).alloc _).heap[c]?=_
   rw[zx _ _ _ (by rw[hz];exact h1)];exact Zk (Ne.symm h2)
  ·show((W.setChan _ _ _ _ _ _ _).alloc _).heap[n+3]?=_
   rw[zx _ _ _ (by rw[hz];omega)];exact Z9 (by omega)
  ·show((W.setChan _ _ _ _ _ _ _).alloc _).heap[W.heap.size]?=_
   rw[←hz];exact Array.getElem?_push_size
 have Bs:∀ {N M:Nat} {x y z:Machine} {t D2 Hs:YL},runNT Zd N x t=(.next y,D2)→runNT Zd M y D2=(.next z,Hs)→runNT Zd (N+M) x t=(.next z,Hs):=fun h k=>by rw[Go.BK.runNT_add _ _ _ _ _ _ h];exact k
 have qS:∀p:Addr,W.heap.size≤p.block→¬Shun (.cell p):=fun p hp=>hS p (.inr hp);have Rd:∀ {N:Nat} {Iz:Array Zg} {w₂:Zb} {Dy:Option (Nat×Nat)} {Hs:YL} {S0:Nat→Nat} {z9 z13 z14 z15 z16 z17 z18 z19 z11 z20 z22 z23 z24 z25 z26 z27 z28 z29:Zc},runNT Zd N (Yg gs W sl) t=(.next (Yg Iz w₂ Dy),Hs)→
   Lone Zd Shun B (JJ (TJ n gv lv sv z9 z13 z14 z15 z16 z17 z18 z19 (Di W.heap.size) z11 z20 (.chan (some (n+3))) z22 z23 z24 z25 z26 z27 z28 z29) cs) Iz Hs S0→Drn W n W.heap.size w₂ #[] (.slice A0 n0 c0) (.slice A1 n1 c1) (W.heap.size+3)→
   ∃N gs' w' Iy t' q' T,runNT Zd N (Yg gs W sl) t=(.next (Yg gs' w' Iy),t')∧Lone Zd Shun B (AO (Zq Zd 159 #[.slice (some ⟨W.heap.size,0,none⟩) 2 2] .normal) (XJ T [1,2]::cs)) gs' t' q'∧
   (∃y9 y10 xV y13 y14 y15 y16 y17 y18 y19 y20 y21 xW xX xY xZ x_ yd ye yf y30 y31,T=TK n gv lv sv y9 y13 y14 y15 y16 y17 y18 y19 y10 xV y20 y21 xW xX xY xZ x_ yd ye yf y30 y31)∧
   Drn W n W.heap.size w' #[] (.slice A0 n0 c0) (.slice A1 n1 c1) (W.heap.size+3):=by
  intro N Iz w₂ Dy Hs S0 z9 z13 z14 z15 z16 z17 z18 z19 z11 z20 z22 z23 z24 z25 z26 z27 z28 z29 Fo Ks Hx;obtain⟨s,r,tm,uW⟩:=Hx.chan;obtain⟨ie,mZ,ajx,XO,lK,yg,Ir,Uc⟩:=Oo (sl:=Dy) (c:=n+3) rfl Ks (fun d=>Ub (w₂.at d)) uW (by omega);rw[Pw]at Uc;obtain⟨aeE,WX,ajy,Km,WY,lM,qL,Rj,⟨rfl,aeF,rfl⟩,XP⟩:=B6 (sl:=XO) (fun _ _ _ h=>h) Uc (iQ (Shun:=Shun) (B:=B) (W:=w₂.at ajx));exact⟨_,WX,_,WY,lM,qL,_,Bs Fo (Bs Ir Rj),XP,⟨_,_,_,_,_,_,_,_,_,_,_,_,_,_,_,_,_,_,_,_,_,_,rfl⟩,⟨Hx.size,Hx.old,⟨s,r,tm,uW⟩,Hx.kept,Hx.os,Hx.tape,Hx.output⟩⟩
 rcases iB with rfl|rfl
 ·obtain⟨LR,Iz,w₂,Dy,Hs,S0,_,_,_,_,_,_,_,_,_,Fo,Ks,Hx⟩:=K0 (sl:=CJ) Ga (k:=0) (.inl rfl) qS (by omega) (by omega) hD (va:=A0) (vn:=n0) (vc:=c0) (by simp[Wb])
  obtain⟨ie,mZ,DL,XO,lK,yg,_,_,_,_,_,_,_,_,_,Ir,Uc,WV⟩:=K0 (sl:=Dy) Ks (k:=1) (.inr rfl) qS (by omega) (by omega) Hx (va:=A1) (vn:=n1) (vc:=c1) (by simp[mY]);exact Rd (Bs fG (Bs Fo Ir)) Uc (by simpa[rF]using WV)
 ·obtain⟨LR,Iz,w₂,Dy,Hs,S0,_,_,_,_,_,_,_,_,_,Fo,Ks,Hx⟩:=K0 (sl:=CJ) Ga (k:=1) (.inr rfl) qS (by omega) (by omega) hD (va:=A1) (vn:=n1) (vc:=c1) (by simp[mY])
  obtain⟨ie,mZ,DL,XO,lK,yg,_,_,_,_,_,_,_,_,_,Ir,Uc,WV⟩:=K0 (sl:=Dy) Ks (k:=0) (.inl rfl) qS (by omega) (by omega) Hx (va:=A0) (vn:=n0) (vc:=c0) (by simp[Wb]);exact Rd (Bs fG (Bs Fo Ir)) Uc (by simpa[rF]using WV)
end
end Go.Proofs.Fit
namespace Go.Proofs.Fit
open Go Go.Conc Go.BK Go.Pair Go.RowKit
open Go.ConcN (WgLive)
open Go.ConcR (WgAt)
theorem m_ (a0 a1 a2:Zc)(cs:List ZA):AO (Zq Zd 104 #[a0,a1,a2] .normal) cs=G ((base 104).at ⟨#[a0,a1,a2,Ze,Ze,Ze,Ze,Ze,Ze,Ze,Ze,Ze,Ze,Ze,Ze,Ze,Ze,Ze,Ze,Ze,Ze,Ze,Ze,Ze,Ze,Ze,Ze,Ze,Ze,Ze,Ze,Ze],[]⟩ [.code By]) cs:=by
 simp[AO,G,Zq,Frame.at,base,By,Tryz.func104,zA]
def Sx (S:Nat→Prop)(n:Nat):Nat→Prop:=fun b=>S b∨b=n∨b=n+1∨b=n+2∨b=n+4
structure Laid (w' W:Zb)(n:Nat)(gc':Array Zc)(lv sv:Zc):Prop where
 size:W.heap.size=n+6∧w'.heap.size=n
 old:∀b,b<n→W.heap[b]?=w'.heap[b]?
 g:W.heap[n]?=some (.cells gc' 112 (0,0))
 l:W.heap[n+1]?=some (.cells #[lv] 27 (0,0))
 s:W.heap[n+2]?=some (.cells #[sv] 23 (0,0))
 ch:W.heap[n+3]?=some (.chan 2 #[] false 0 0 false)
 chb:W.heap[n+4]?=some (.cells #[.chan (some (n+3))] 197 (0,0))
 wg:W.heap[n+5]?=some (.cells #[.int .u64 0,.int .u32 0] 206 (0,0))
 os:W.os=w'.os
 tape:W.tape=w'.tape
 output:W.output=w'.output
theorem rG (w':Zb)(gc':Array Zc)(lv sv:Zc):Laid w' (W1 w' gc' lv sv) w'.heap.size gc' lv sv:=by
 have hs:∀(w:Zb) (o:Obj),(w.alloc o).heap.size=w.heap.size+1:=fun w o=>by simp
 have hn:∀(w:Zb) (o:Obj),(w.alloc o).heap[w.heap.size]?=some o:=fun w o=>Array.getElem?_push_size;have ho:∀(w:Zb) (o:Obj) (b:Nat),b<w.heap.size→(w.alloc o).heap[b]?=w.heap[b]? :=fun w o b h=>zx _ _ _ h;unfold W1;refine⟨⟨by simp only[hs],rfl⟩,fun b hb=>?_,?_,?_,?_,?_,?_,?_,rfl,rfl,rfl⟩
 ·rw[ho _ _ _ (by simp only[hs];omega),ho _ _ _ (by simp only[hs];omega),ho _ _ _ (by simp only[hs];omega),ho _ _ _ (by simp only[hs];omega),ho _ _ _ (by simp only[hs];omega),ho _ _ _ (by omega)]
 ·rw[ho _ _ _ (by simp only[hs];omega),ho _ _ _ (by simp only[hs];omega),ho _ _ _ (by simp only[hs];omega),ho _ _ _ (by simp only[hs];omega),ho _ _ _ (by simp only[hs];omega)]
  exact hn _ _
 ·rw[ho _ _ _ (by simp only[hs];omega),ho _ _ _ (by simp only[hs];omega),ho _ _ _ (by simp only[hs];omega),ho _ _ _ (by simp only[hs];omega)]
  have:=hn (w'.alloc (.cells gc' 112)) (.cells #[lv] 27);rwa[hs]at this
 ·rw[ho _ _ _ (by simp only[hs];omega),ho _ _ _ (by simp only[hs];omega),ho _ _ _ (by simp only[hs];omega)]
  have:=hn ((w'.alloc (.cells gc' 112)).alloc (.cells #[lv] 27)) (.cells #[sv] 23);rwa[hs,hs]at this
 ·rw[ho _ _ _ (by simp only[hs];omega),ho _ _ _ (by simp only[hs];omega)]
  have:=hn (((w'.alloc (.cells gc' 112)).alloc (.cells #[lv] 27)).alloc (.cells #[sv] 23)) (.chan 2 #[] false 0 0 false);rwa[hs,hs,hs]at this
 ·rw[ho _ _ _ (by simp only[hs];omega)]
  have:=hn ((((w'.alloc (.cells gc' 112)).alloc (.cells #[lv] 27)).alloc (.cells #[sv] 23)).alloc (.chan 2 #[] false 0 0 false)) (.cells #[.chan (some (w'.heap.size+3))] 197);rwa[hs,hs,hs,hs]at this
 ·have:=hn (((((w'.alloc (.cells gc' 112)).alloc (.cells #[lv] 27)).alloc (.cells #[sv] 23)).alloc (.chan 2 #[] false 0 0 false)).alloc (.cells #[.chan (some (w'.heap.size+3))] 197)) (.cells #[.int .u64 0,.int .u32 0] 206)
  rwa[hs,hs,hs,hs,hs]at this
theorem Laid.at {w' W:Zb}{n:Nat}{gc':Array Zc}{lv sv:Zc}(h:Laid w' W n gc' lv sv)(d:Nat):Laid w' (W.at d) n gc' lv sv:=⟨h.size,h.old,h.g,h.l,h.s,h.ch,h.chb,h.wg,h.os,h.tape,h.output⟩
theorem rH {lo hi:Nat→Nat}{AZ:Nat→Zc}{fit:Nat→Bool}{ρ:Ren}{Wg:Nat}:IB 206 Wg (Vs lo hi AZ fit ρ):=fun _ _ _ _ _ h r=>h.rely r.base
abbrev SQ (ln:Nat):Nat→Nat:=fun k=>k*ln / 2
abbrev Px (ln:Nat):Nat→Nat:=fun k=>(k+1)*ln / 2
section
variable {S:Nat→Prop}{ρ:Ren}{w w':Zb}{gs:Array Zg}{sl:Option (Nat×Nat)}{t:YL}{q:Nat→Nat}{Shun:Loc→Prop}{gc gc':Array Zc}{la bG pI:Option Addr}{ln lc sn sc:Nat}{sv:Zc}{cs':List ZA}{rows AZ:Nat→Zc}{fit:Nat→Bool}
theorem iT (X:Ctx Zd S (AO (Zq Zd 104 #[.agg gc',.slice bG ln lc,.slice pI sn sc] .normal) cs') w' gs t q Shun)(hS:∀c,S c↔∃b,ρ b=some c)(I4:ρ.ok=MZ)(hw:WR ρ w w')
  (M6:BN ρ gc gc') (uc:VR ρ (.slice la ln lc) (.slice bG ln lc)) (hsv:VR ρ sv (.slice pI sn sc)) (H:L9 w.heap.size w gc la ln lc sv rows fit) (hR:∀i,i<ln→VR ρ (rows i) (AZ i)):
  ∃N CI W w₁ CJ D2,runNT Zd N (Yg gs w' sl) t=(.next (Yg CI w₁ CJ),D2)∧Laid w' W w'.heap.size gc' (.slice bG ln lc) (.slice pI sn sc)∧
   Joined Zd (w'.heap.size+3) (w'.heap.size+5) (Vs (SQ ln) (Px ln) AZ fit ρ) Shun (fq w'.heap.size (.agg gc') (.slice bG ln lc) (.slice pI sn sc) cs') (Sx S w'.heap.size) (Sx S w'.heap.size) W CI w₁ D2:=by
 have GY:∀b,S b→b<w'.heap.size:=fun b hb=>(X.held b hb).1;have RM:∀p:Addr,w'.heap.size≤p.block→¬Shun (.cell p):=fun p hp hs=>by
  obtain⟨a,e,h⟩:=X.WU _ hs;cases e;omega
 have hX:Lone Zd Shun (w'.heap.size+6) (AO (Zq Zd 104 #[.agg gc',.slice bG ln lc,.slice pI sn sc] .normal) cs') gs t q:=⟨X.main,X.old,X.past.mono (by omega)⟩;rw[m_]at hX;obtain⟨N,CI,cu,W,CJ,D2,Gs,hr,⟨rfl,d,rfl⟩,Ga⟩:=B6 (sl:=sl) (fun _ _ _ h=>h) hX (mV (Shun:=Shun) RM);have hL:=(rG w' gc' (.slice bG ln lc) (.slice pI sn sc)).at d;generalize (W1 w' gc' (.slice bG ln lc) (.slice pI sn sc)).at d=W at*;have D1:=hL.size;generalize hn:w'.heap.size=n at*;have hSx:∀b,Sx S n b→b<n+6:=by
  rintro b (h|h|h|h|h)
  ·have:=GY b h;omega
  all_goals omega
 have qR:=XC (S:=Sx S n) (L:=Sx S n) (n:=n) (gv:=.agg gc') (lv:=.slice bG ln lc) (sv:=.slice pI sn sc) (cs:=cs') (Pay:=Vs (SQ ln) (Px ln) AZ fit ρ) W ⟨0,0,hL.wg⟩ (by omega) (fun h=>by
   rcases h with h|h|h|h|h
   ·have:=GY _ h;omega
   all_goals omega) (fun b hb=>by have:=hSx b hb;omega) (fun b hb=>by have:=hSx b hb;omega)
  (fun k pb S' V_ hk rI U2 hS3 hS4 yh Kq uS hpb=>by
   have Nz:∀b,Sx S n b→V_.heap[b]?=W.heap[b]? :=yh.same;obtain⟨wl,Ua,h1,h2⟩:=XM (k:=k) (n:=n) (pb:=pb) (w₀:=V_) I4 hw M6 uc hsv (by omega) (fun b ⟨a,hb⟩=>by
     have GL:S b:=(hS b).2 ⟨a,hb⟩;rw[Nz b (.inl GL),hL.old b (GY b GL)]) (yh.os.trans hL.os) ⟨(0,0),(Nz n (.inr (.inl rfl))).trans hL.g,Zj _⟩ ⟨(0,0),(Nz _ (.inr (.inr (.inl rfl)))).trans hL.l,Zj _⟩ ⟨(0,0),(Nz _ (.inr (.inr (.inr (.inl rfl))))).trans hL.s,Zj _⟩ uS (by omega)
   refine Vt (T₀:=S') h1 h2 hk H hR (fun f hf=>by rw[I4]at hf;exact hf) (fun b c JO=>?_) hS4 uS ?_ (rI _ (.inr (.inr (.inr (.inr rfl))))) (fun h=>?_) ?_ Kq
   ·rcases h2.only b c JO with h|rfl|rfl|rfl|rfl
    ·exact rI _ (.inl ((hS c).2 ⟨b,h⟩))
    ·exact rI _ (.inr (.inr (.inl rfl)))
    ·exact U2
    ·exact rI _ (.inr (.inl rfl))
    ·exact rI _ (.inr (.inr (.inr (.inl rfl))))
   ·refine(zo (a:=⟨n+4,0,none⟩) (Nz _ (.inr (.inr (.inr (.inr rfl)))))).trans ?_
    unfold zJ;rw[hL.chb];rfl
   ·rcases hS3 _ h with h|h
    ·rcases h with h|h|h|h|h
     ·have:=GY _ h;omega
     all_goals omega
    ·omega
   ·have:=yh.size;omega)
 obtain⟨LR,Iz,w₂,Dy,Hs,Fo,hJ⟩:=cj (sl:=CJ) (q:=Gs) (Shun:=Shun) rH RH S9 XB Ga.main Ga.old (by rw[D1.1];exact Ga.past) (fun b hb=>⟨by have:=hSx b hb;omega,fun a ha hs=>by
   rcases hb with hb|hb
   ·exact(X.held b hb).2 a ha hs
   ·exact RM a (by omega) hs⟩) (fun l hl=>by obtain⟨a,e,h⟩:=X.WU l hl;exact⟨a,e,by omega⟩) (fun h=>by
   rcases h with h|h|h|h|h
   ·have:=GY _ h;omega
   all_goals omega) (fun h=>by
   rcases h with h|h|h|h|h
   ·have:=GY _ h;omega
   all_goals omega) (by omega) hL.wg hL.ch (fun l ⟨a,e,h⟩ hs=>by subst e;exact RM a (by omega) hs) (fun b hb=>by have:=hSx b hb;omega) qR
 exact⟨N+LR,Iz,W,w₂,Dy,Hs,by rw[Go.BK.runNT_add _ _ _ _ _ _ hr];exact Fo,hL,hJ⟩
end
end Go.Proofs.Fit
namespace Go.Proofs.Fit
open Go Go.Conc Go.BK Go.Pair Go.RowKit
def fH (wl:Zb)(xs:List Zc)(v:Zc)(w:Zb):Prop:=
 (∀b,b<wl.heap.size→w.heap[b]?=wl.heap[b]?)∧(xs.length=0→v=.slice none 0 0)∧(0<xs.length→∃r c,v=.slice (some ⟨r,0,none⟩) xs.length c∧wl.heap.size≤r∧c≤maxLen∧Room w r c xs)
theorem fH.blind {wl:Zb}{xs:List Zc}:C2 (fH wl xs):=fun _ _ _ h=>h
theorem Vv {rows:Nat→Zc}{fit:Nat→Bool}{lo hi:Nat}{u:Zc}(h:u∈CN rows fit lo hi):∃i,lo≤i∧i<hi∧u=rows i:=by
 obtain⟨j,hj⟩:=List.getElem?_of_mem h;obtain⟨i,h1,h2,h3,_⟩:=M9 hj;exact⟨i,h1,h2,h3⟩
section
variable {ρ:Ren}{w w' w₁ w₂:Zb}{n K ln:Nat}{rows AZ:Nat→Zc}{fit:Nat→Bool}{S T0 T1:Nat→Prop}{A0 A1:Option Addr}{v0 v1:Zc}{n0 n1 c0 c1 sz:Nat}
def RN (ρ pJ pK:Ren)(K:Nat):Nat→Prop:=fun c=>(∃b,ρ b=some c)∨(∃b,pJ b=some c)∨(∃b,pK b=some c)∨c=K
theorem cK (I4:ρ.ok=MZ)(hw:WR ρ w w')(Vi:ln≤1000000)(Ds:∀i,i<ln→∃a n c,rows i=.slice a n c)(hR:∀i,i<ln→VR ρ (rows i) (AZ i))
  (Qk:∀b c,ρ b=some c→w₂.heap[c]?=w'.heap[c]?) (hKK:w₂.heap[K]?=some (.cells #[v0,v1] 210 (0,0)))
  (P0:Vs (SQ ln) (Px ln) AZ fit ρ 0 T0 (.agg #[.int .i64 0,v0]) w₁) (iU:∀b,T0 b→w₂.heap[b]?=w₁.heap[b]?) (P1:Vs (SQ ln) (Px ln) AZ fit ρ 1 T1 (.agg #[.int .i64 1,v1]) w₁) (NC:∀b,T1 b→w₂.heap[b]?=w₁.heap[b]?) {c':ZA} {cs':List ZA}:
  ∃D:Nat→Prop,(∀b c,ρ b=some c→D c)∧(∀c,D c→c=K∨(∃b,ρ b=some c)∨T0 c∨T1 c)∧
   Wa Zd true D (fun S g w=>∃v',g=AO (c'.finish v') cs'∧((CN AZ fit 0 ln).length=0→v'=.slice none 0 0)∧
    (0<(CN AZ fit 0 ln).length→∃r k cs f,v'=.slice (some ⟨r,0,none⟩) (CN AZ fit 0 ln).length k∧(CN AZ fit 0 ln).length≤k∧w₂.heap.size≤r∧k≤maxLen∧S r∧w.heap[r]?=some (.cells cs 22 f)∧f.2≤f.1∧cs=(CN AZ fit 0 ln).toArray++Yd (k - (CN AZ fit 0 ln).length) S6)) D
    (AO (Zq Zd 159 #[.slice (some ⟨K,0,none⟩) 2 2] .normal) (c'::cs')) w₂:=by
 obtain⟨pJ,wl0,a0,A0,c0,e0,k0,w0R,s0,i0,V0,C0⟩:=P0;obtain⟨pK,uQ,a1,A1,c1,e1,k1,w1R,s1,i1,V1,C1⟩:=P1;have f0:v0=.slice A0 (CN AZ fit (SQ ln 0) (Px ln 0)).length c0:=by
  have:=congrArg Array.toList (Value.agg.inj e0);exact(zC (zC this).2).1
 have f1:v1=.slice A1 (CN AZ fit (SQ ln 1) (Px ln 1)).length c1:=by
  have:=congrArg Array.toList (Value.agg.inj e1);exact(zC (zC this).2).1
 have hl:RN ρ pJ pK K okW.low:=.inl ⟨_,by have:=ρ.base;rw[I4]at this;exact this⟩
 let Wf:=Ren.Vb (RN ρ pJ pK K) okW (A_ Zd okW BO false) (fun _=>false) hl
 have aeG:ρ.F9 Wf:=N_ (fun b c hb=>.inl ⟨b,hb⟩) (fun f hf=>by rw[I4]at hf;exact hf);have on0:pJ.F9 Wf:=N_ (fun b c hb=>.inr (.inl ⟨b,hb⟩)) (fun f hf=>by rw[k0]at hf;exact hf);have on1:pK.F9 Wf:=N_ (fun b c hb=>.inr (.inr (.inl ⟨b,hb⟩))) (fun f hf=>by rw[k1]at hf;exact hf);have uX:VR Wf v0 v0:=by rw[f0];exact V0.LX on0
 have uY:VR Wf v1 v1:=by rw[f1];exact V1.LX on1
 have nd:∀i,i<ln→VR Wf (AZ i) (AZ i):=fun i hi=>by
  obtain⟨a,m,c,h⟩:=Ds i hi;have:=hR i hi;rw[h]at this;exact this.LX aeG
 have aeH:∀i,i<ln→(AZ i).oneCell'=true:=fun i hi=>by
  obtain⟨a,m,c,h⟩:=Ds i hi;have:=hR i hi;rw[h]at this;obtain⟨A,hA,_⟩:=VR.Gb this;rw[hA];rfl
 have yi:∀c,RN ρ pJ pK K c→∃o,w₂.heap[c]?=some o∧OR Wf (Db Wf o) o:=by
  rintro c (⟨b,hb⟩|⟨b,hb⟩|⟨b,hb⟩|rfl)
  ·obtain⟨o,o',p1,p2,p3⟩:=hw.obj b c hb
   exact⟨o',(Qk b c hb).trans p2,p3.F9 aeG⟩
  ·obtain⟨o,o',p1,p2,p3⟩:=w0R.obj b c hb
   exact⟨o',(iU c (s0 b c hb)).trans p2,p3.F9 on0⟩
  ·obtain⟨o,o',p1,p2,p3⟩:=w1R.obj b c hb
   exact⟨o',(NC c (s1 b c hb)).trans p2,p3.F9 on1⟩
  ·refine⟨_,hKK,?_⟩
   refine .cells 210 ⟨by simp,fun i v y h1 h2=>?_⟩ (Qq _ _);rw[Yi,h2]at h1;cases h1;refine N9 ?_
   match i,h2 with
   |0,h2=>cases h2;exact⟨_,uX⟩
   |1,h2=>cases h2;exact⟨_,uY⟩
 have hWC:WR Wf (snap Wf w₂) w₂:=lZ yi;have hKl:K<w₂.heap.size:=(Za.1 hKK).1;have ks:∀c,RN ρ pJ pK K c→c<w₂.heap.size:=fun c hc=>by
  obtain⟨o,h,_⟩:=yi c hc;exact(Za.1 h).1
 have q0:(snap Wf w₂).cell? ⟨K,0,none⟩=some (.slice A0 (CN AZ fit (SQ ln 0) (Px ln 0)).length c0):=by
  rw[←f0];exact IG (by unfold zJ;rw[hKK];rfl) uX
 have q1:(snap Wf w₂).cell? ⟨K,1,none⟩=some (.slice A1 (CN AZ fit (SQ ln 1) (Px ln 1)).length c1):=by
  rw[←f1];exact IG (by unfold zJ;rw[hKK];rfl) uY
 have r0:Kr (snap Wf w₂) A0 (CN AZ fit (SQ ln 0) (Px ln 0)):=fun j u hu=>by
  obtain⟨ad,h1,⟨b,h2⟩,h3⟩:=C0 j u hu;obtain⟨i,i1,i2,rfl,_⟩:=M9 hu;have hi:i<ln:=by simp only[Px]at i2;omega
  refine⟨ad,h1,by rw[KU];exact ks _ (.inr (.inl ⟨b,h2⟩)),IG ?_ (nd i hi)⟩;rw[←h3];exact zo (by rw[Ct];exact iU _ (s0 b _ h2))
 have r1:Kr (snap Wf w₂) A1 (CN AZ fit (SQ ln 1) (Px ln 1)):=fun j u hu=>by
  obtain⟨ad,h1,⟨b,h2⟩,h3⟩:=C1 j u hu;obtain⟨i,i1,i2,rfl,_⟩:=M9 hu;have hi:i<ln:=by simp only[Px]at i2;omega
  refine⟨ad,h1,by rw[KU];exact ks _ (.inr (.inr (.inl ⟨b,h2⟩))),IG ?_ (nd i hi)⟩;rw[←h3];exact zo (by rw[Ct];exact NC _ (s1 b _ h2))
 have Ig:CN AZ fit (SQ ln 0) (Px ln 0)++CN AZ fit (SQ ln 1) (Px ln 1)=CN AZ fit 0 ln:=by
  have e1:SQ ln 0=0:=by simp[SQ]
  have e2:Px ln 0=ln / 2:=by simp[Px]
  have e3:SQ ln 1=ln / 2:=by simp[SQ]
  have e4:Px ln 1=ln:=by simp only[Px];omega
  rw[e1,e2,e3,e4];exact cC (Zt _) (by omega)
 have Lz:=fun t=>ajd (wl:=tp (snap Wf w₂) t) (K:=K) q0 q1 r0 r1 (fun u hu=>by obtain⟨i,_,h,rfl⟩:=Vv hu;exact aeH i (by simp only[Px]at h;omega)) (fun u hu=>by obtain⟨i,_,h,rfl⟩:=Vv hu;exact aeH i (by simp only[Px]at h;omega)) (by
  have h1:=C9 (rows:=AZ) (fit:=fit) (lo:=SQ ln 0) (hi:=Px ln 0);have h2:=C9 (rows:=AZ) (fit:=fit) (lo:=SQ ln 1) (hi:=Px ln 1);simp only[SQ,Px]at h1 h2;show(CN AZ fit (SQ ln 0) (Px ln 0)).length+(CN AZ fit (SQ ln 1) (Px ln 1)).length≤1000000;simp only[SQ,Px];omega)
 rw[Ig]at Lz;refine⟨RN ρ pJ pK K,fun b c hb=>.inl ⟨b,hb⟩,?_,?_⟩
 ·rintro c (h|⟨b,h⟩|⟨b,h⟩|h)
  ·exact .inr (.inl h)
  ·exact .inr (.inr (.inl (s0 b c h)))
  ·exact .inr (.inr (.inr (s1 b c h)))
  ·exact .inl h
 have hDD:(fun c=>∃b,Wf b=some c)=RN ρ pJ pK K:=by
  funext c
  apply propext;constructor
  ·rintro⟨b,hb⟩
   obtain⟨h,rfl⟩:=F_.1 hb;exact h
  ·exact fun h=>⟨c,F_.2 ⟨h,rfl⟩⟩
 have hR:=l9 AP.twins MX (ρ:=Wf) (AP.adX rfl rfl rfl) rfl (f:=159) (show Xt 159=true by decide) (a:= #[.slice (some ⟨K,0,none⟩) 2 2]) (a':= #[.slice (some ⟨K,0,none⟩) 2 2]) (Bt.single (.slice _ _ ⟨F_.2 ⟨.inr (.inr (.inr rfl)),rfl⟩,rfl,rfl⟩)) hWC (c':=c') (cs':=cs') (Post:=fH (snap Wf w₂) (CN AZ fit 0 ln)) fH.blind
  (fun t=>(Lz t).mono fun e w' h=>by
   obtain⟨h1,h2,h3⟩:=h;rcases Yr (CN AZ fit 0 ln).length with hz|hp
   ·rw[h2 hz]
    exact⟨fun b hb=>h1.block b hb,fun _=>rfl,fun h=>absurd h (by omega)⟩
   ·obtain⟨r,c,rfl,g1,g2,g3⟩:=h3 hp
    exact⟨fun b hb=>h1.block b hb,fun h=>absurd h (by omega),fun _=>⟨r,c,rfl,g1,g2,g3⟩⟩)
  (fun v w' h b o _ ho=>by rw[h.1 b (Za.1 ho).1];exact ho)
  (fun b c hb=>by
   obtain⟨h,rfl⟩:=F_.1 hb;obtain⟨o,h1,h2⟩:=yi b h;exact TX h1 h2) (S:=RN ρ pJ pK K) (fun c=>by rw[←hDD]) (m:=true)
 rw[hDD]at hR;refine hR.imp fun S g DL h=>?_;obtain⟨σ,Gy,v,v',rfl,⟨lz,UY,hp3⟩,hv,hle,px,yj,hS⟩:=h;refine⟨v',rfl,fun hz=>?_,fun hp=>?_⟩
 ·rw[UY hz]at hv
  obtain⟨A,rfl,hA⟩:=VR.Gb hv;cases A with
  |none=>rfl
  |some A=>exact hA.elim
 ·obtain⟨r0,k,rfl,g1,g2,g3⟩:=hp3 hp
  obtain⟨A,rfl,hA⟩:=VR.Gb hv;cases A with
  |none=>exact hA.elim
  |some A=>
  obtain⟨mW,XN,uU⟩:=hA;obtain⟨ab,ao,aq⟩:=A;dsimp only at mW XN uU;subst XN uU;rw[KU]at g1;have Eh:w₂.heap.size≤ab:=by
   rcases px _ _ mW with h|⟨_,h⟩
   ·obtain⟨hd,e⟩:=F_.1 h
    have:=ks _ hd;omega
   ·exact h
  obtain⟨o,o',p1,p2,p3⟩:=yj.obj _ _ mW;rw[g3.2]at p1;cases p1;cases p3 with
  | @cells _ cs e f f' hc hf=>
  refine⟨ab,k,cs,f',rfl,g3.1,Eh,g2,(hS ab).2 ⟨r0,mW⟩,p2,?_,?_⟩
  ·rcases hf with rfl|hf|⟨h1,h2⟩
   ·exact Zj _
   ·exact hf
   ·dsimp only at h2;omega
  ·refine Array.ext hc.1.symm fun i h1 h2=>?_
   have hx:=hc.2 i _ _ (ZB h2) (ZB h1);have iV:i<k:=by
    have:=g3.1;simp at h2;omega
   rw[Array.getElem_append]at hx⊢;split at hx
   ·next Az=>
    rw[dif_pos Az];have hm:(CN AZ fit 0 ln).toArray[i] ∈CN AZ fit 0 ln:=by simp
    obtain⟨j,_,hj,hr⟩:=Vv hm;rw[hr]at hx⊢;have DJ:=(nd j hj).mono hle;obtain⟨a,m,c,h⟩:=Ds j hj;have hRj:=hR;have hrj:= ‹∀i,i<ln→VR ρ (rows i) (AZ i)› j hj;rw[h]at hrj;obtain⟨A,hA,_⟩:=VR.Gb hrj;rw[hA]at hx DJ⊢;exact VR.NZ hx DJ
   ·next Az=>
    rw[dif_neg Az];rw[Array.getElem_replicate]at hx⊢;exact VR.NZ hx (.slice _ _ trivial)
end
theorem Cn.same {w w₁:Zb}{b:Nat}(h:Cn w b)(e:w₁.heap[b]?=w.heap[b]?):Cn w₁ b:=by
 obtain⟨t,n,h1,h2⟩:=h;refine⟨t,n,?_,fun off ho=>?_⟩
 ·unfold Ys at*;rw[e];exact h1
 ·have:=h2 off ho
  unfold Yu at*;rw[e];exact this
theorem Kg.same {J:Nat→Obj→Prop}{w w₁:Zb}{b:Nat}(h:Kg J w b)(e:w₁.heap[b]?=w.heap[b]?):Kg J w₁ b:=
 h.imp (fun h=>Cn.same h e) fun⟨o,h1,h2⟩=>⟨o,h1,e.trans h2⟩
def RO (P' P:Zp)(B:Fj)(J:Nat→Obj→Prop)(ρ₀:Ren)(n₀ n₀':Nat)(Lk S:Nat→Prop)(g:Zg)(w:Zb)(w':Zb)(gs:Array Zg)(sl:Option (Nat×Nat))(t:YL):Prop:=
  ∃(N:Nat) (CI:Array Zg) (CJ:Option (Nat×Nat)) (D2:YL) (Gs:Nat→Nat) (Shun₁:Loc→Prop) (Fz:Nat→Prop) (σ:Ren) (AE:Zg) (w₁:Zb) (CZ:Zg) (w₁':Zb),
   runNT P N (Yg gs w' sl) t=(.next (Yg CI w₁' CJ),D2)∧Cw P' B true g w AE w₁∧MN P' P B J ρ₀ n₀ n₀' Lk Fz σ AE w₁ CZ w₁'∧Ctx P Fz CZ w₁' CI D2 Gs Shun₁∧LQ S Lk w' w₁' Fz
section
variable {B:Fj}{fn:Func}{Post:Zc→Zb→Prop}{J:Nat→Obj→Prop}{ρ₀ ρ:Ren}{n₀ n₀':Nat}{Lk S:Nat→Prop}{f f':ZA}{cs cs':List ZA}{a a':Array Zc}{w w':Zb}{gs:Array Zg}{sl:Option (Nat×Nat)}{t:YL}{q:Nat→Nat}{Shun:Loc→Prop}
theorem Md {N:Nat}{CI:Array Zg}{CJ:Option (Nat×Nat)}{D2:YL}{Gs:Nat→Nat}{Shun₁:Loc→Prop}{g g':Zg}{w₁ w₁':Zb}{v v':Zc}(H:MN Lp Zd B J ρ₀ n₀ n₀' Lk S ρ g w g' w')(hS:F6 Lp Zd B ρ (f::cs) (f'::cs'))(BI:f.todo≠ [])
  (hr:runNT Zd N (Yg gs w' sl) t=(.next (Yg CI w₁' CJ),D2)) (hp:Cw Lp B true g w (AO (f.finish v) cs) w₁) (hb:∀b,b<w.heap.size→w₁.heap[b]?=w.heap[b]?) (We:w₁.os=w.os) (D1:w.heap.size≤w₁.heap.size)
  (X:Lone Zd Shun₁ w₁'.heap.size (AO (f'.finish v') cs') CI D2 Gs) (GL:∀b,b<w'.heap.size→w₁'.heap[b]?=w'.heap[b]?) (Ru:w'.heap.size≤w₁'.heap.size) (rJ:w₁'.os=w'.os∧w₁'.tape=w'.tape∧w₁'.output=w'.output)
  (IE:GJ Shun₁ w₁'.heap.size) {σ:Ren} (hle:ρ.le σ) (Bv:∀b c,σ b=some c→ρ b=some c∨(w.heap.size≤b∧w'.heap.size≤c∧c<w₁'.heap.size∧(∀p:Addr,p.block=c→¬Shun₁ (.cell p))∧∃o o',w₁.heap[b]?=some o∧w₁'.heap[c]?=some o'∧OR σ o o'))
  (fI:∀b,S b→∀p:Addr,p.block=b→¬Shun₁ (.cell p)) (hv:VR σ v v'):
  RO Lp Zd B J ρ₀ n₀ n₀' Lk S g w w' gs sl t:=by
 have Az:∀b c,ρ b=some c→b<w.heap.size∧c<w'.heap.size:=fun b c h=>H.world.lt h;refine⟨N,CI,CJ,D2,Gs,Shun₁,fun c=>∃b,σ b=some c,σ,AO (f.finish v) cs,w₁,AO (f'.finish v') cs',w₁',hr,hp,?_,?_,?_⟩
 ·refine⟨H.env.mono hle,Ren.le_trans H.le hle,fun b c hb=>?_,⟨Zx H.size.1 D1,Zx H.size.2 Ru⟩,.inl ⟨_,_,_,_,rfl,rfl,(hS.mono hle).top fun K h=>h.finish hv BI⟩,⟨fun b c JO=>?_,?_⟩,fun c hc=>?_,fun c=>Iff.rfl⟩
  ·rcases Bv b c hb with h|h
   ·exact H.fresh b c h
   ·exact .inr ⟨Zx H.size.1 h.1,Zx H.size.2 h.2.1⟩
  ·rcases Bv b c JO with h|h
   ·obtain⟨o,o',h1,h2,h3⟩:=H.world.obj b c h
    exact⟨o,o',(hb b (Az b c h).1).trans h1,(GL c (Az b c h).2).trans h2,h3.mono hle⟩
   ·exact h.2.2.2.2
  ·rw[rJ.1,We];exact H.world.os
  ·obtain⟨b,h1,h2⟩:=H.lock c hc
   exact⟨b,hle.1 _ _ h1,Kg.same h2 (hb b (Az b c h1).1)⟩
 ·refine⟨X.main,X.old,X.past,fun c ⟨b,hb⟩=>?_,IE⟩
  rcases Bv b c hb with h|h
  ·exact⟨Zl (Az b c h).2 Ru,fI c ((H.holds c).2 ⟨b,h⟩)⟩
  ·exact⟨h.2.2.1,h.2.2.2.1⟩
 ·refine⟨Ru,fun b hb _=>GL b hb,rJ.1,rJ.2.1,rJ.2.2,fun c ⟨b,hb⟩=>?_⟩
  rcases Bv b c hb with h|h
  ·exact .inl ((H.holds c).2 ⟨b,h⟩)
  ·exact .inr h.2.1
theorem rK (hl:B.lcs=[CV Lp])(JR:B.K.seg=false)(nf:C2 Post)(ha:a.size=3)(uZ:BN ρ a a')(I4:ρ.ok=MZ)(hS:F6 Lp Zd B ρ (f::cs) (f'::cs'))(BI:f.todo≠ [])
  (hM:Cm Lp B true (Er Lp B fn Post PX) (AO (Zq Lp 104 a .normal) (f::cs)) w)
  (H:MN Lp Zd B J ρ₀ n₀ n₀' Lk S ρ (AO (Zq Lp 104 a .normal) (f::cs)) w (AO (Zq Zd 104 a' .normal) (f'::cs')) w') (X:Ctx Zd S (AO (Zq Zd 104 a' .normal) (f'::cs')) w' gs t q Shun):
  RO Lp Zd B J ρ₀ n₀ n₀' Lk S (AO (Zq Lp 104 a .normal) (f::cs)) w w' gs sl t:=by
 obtain⟨gc,la,ln,lc,sv,rows,fit,rfl,HP⟩:=xQ hl JR nf H.env hS ⟨w',H.world⟩ ha hM;obtain⟨y0,y1,y2,rfl⟩:=aef a' (uZ.1.symm.trans rfl);have v0:VR ρ (.agg gc) y0:=uZ.2 0 _ _ rfl rfl;have v1:VR ρ (.slice la ln lc) y1:=uZ.2 1 _ _ rfl rfl;have v2:VR ρ sv y2:=uZ.2 2 _ _ rfl rfl;obtain⟨gc',rfl,M6⟩:∃gc',y0=.agg gc'∧BN ρ gc gc':=by
  cases v0 with
  |agg h1 h2=>exact⟨_,rfl,h1,h2⟩
 obtain⟨bG,rfl,uc⟩:=VR.Gb v1;obtain⟨sa,sn,sc,hsv⟩:=HP.mH;have v2':=v2;rw[hsv]at v2';obtain⟨pI,rfl,_⟩:=VR.Gb v2';clear v2';have RP:∀i,∃x,i<ln→VR ρ (rows i) x:=fun i=>by
  by_cases hi:i<ln
  ·obtain⟨ad,rfl,h2,h3⟩:=HP.there i hi
   cases bG with
   |none=>exact uc.elim
   |some ad'=>
    obtain⟨x,_,hx⟩:=WR.uP H.world (AR.add uc i) h3;exact⟨x,fun _=>hx⟩
  ·exact⟨Ze,fun h=>absurd h hi⟩
 obtain⟨AZ,hR⟩:=Classical.axiomOfChoice RP;clear RP;obtain⟨ajA,CI,W,w₁,CJ,D2,fG,hL,hJ⟩:=iT (sl:=sl) X H.holds I4 H.world M6 v1 v2 HP hR;obtain⟨b,S',h0,⟨pb,rfl⟩,qS⟩:=hJ.main;obtain⟨Gs,hold⟩:=hJ.old;obtain⟨vals,ord,tm,iB,lT,iu⟩:=hJ.chan;have D1:=hL.size;have asK:=hJ.size;generalize hn:w'.heap.size=n at*;have GY:∀b,S b→b<n:=fun b hb=>by rw[←hn];exact(X.held b hb).1
 have RM:∀p:Addr,n≤p.block→¬Shun (.cell p):=fun p hp hs=>by
  obtain⟨a,e,h⟩:=X.WU _ hs;cases e;omega
 have yl:∀b,b<n→w₁.heap[b]?=w'.heap[b]? :=fun b hb=>by
  rw[hJ.still b (by omega) (by omega) (by omega) ?_,hL.old b hb];by_cases h:S b
  ·exact .inr (.inl h)
  ·refine .inl fun h'=>?_
   rcases h' with h'|h'|h'|h'|h'
   ·exact h h'
   all_goals omega
 obtain⟨T0,p0,iU⟩:=iu 0 (by omega);obtain⟨T1,p1,NC⟩:=iu 1 (by omega);have Wb:∃A0 m0 c0,vals 0=.agg #[.int .i64 0,.slice A0 m0 c0]:=by
  obtain⟨_,_,_,A,c,e,_⟩:=p0;exact⟨_,_,_,e⟩
 have mY:∃A1 m1 c1,vals 1=.agg #[.int .i64 1,.slice A1 m1 c1]:=by
  obtain⟨_,_,_,A,c,e,_⟩:=p1;exact⟨_,_,_,e⟩
 obtain⟨A0,m0,c0,Wb⟩:=Wb;obtain⟨A1,m1,c1,mY⟩:=mY;rw[Wb]at p0;rw[mY]at p1;obtain⟨LR,Iz,w₂,Dy,Hs,S0,T,Fo,Ks,hT,hD⟩:=drain (sl:=CJ) (B:=w₁.heap.size+3) ⟨h0,hold,hJ.past.mono (by omega)⟩ iB Wb mY lT (by
   unfold zJ;rw[hJ.still (n+4) (by omega) (by omega) (by omega) (.inr (.inr (.inr (.inr (.inr rfl))))),hL.chb];rfl)
  (fun p hp hs=>by
   rcases hs with hs|⟨a,e,h⟩
   ·exact RM p (by omega) hs
   ·cases e;omega) (Zj _)
 have Xj:∀b,b<n→w₂.heap[b]?=w'.heap[b]? :=fun b hb=>(hD.old b (by omega) (by omega)).trans (yl b hb);obtain⟨D,pL,ks,ajB⟩:=cK (w₂:=w₂) (K:=w₁.heap.size) (c':=XJ T [1,2]) (cs':=f'::cs') I4 H.world HP.small HP.row hR (fun b c hb=>Xj c (by rw[←hn];exact(H.world.lt hb).2)) hD.kept
  p0 (fun b hb=>hD.old b (iU b hb).2.1 (iU b hb).2.2.2) p1 (fun b hb=>hD.old b (NC b hb).2.1 (NC b hb).2.2.2)
 have IE:GJ (fun l=>Shun l∨LU (n+5) l) w₂.heap.size:=by
  rintro l (h|⟨a,rfl,h⟩)
  ·obtain⟨a,e,h⟩:=X.WU l h
   exact⟨a,e,by have:=hD.size;omega⟩
  ·exact⟨a,rfl,by have:=hD.size;omega⟩
 have hDs:∀c,D c→c<w₁.heap.size+1∧c≠n+5∧(∀p:Addr,p.block=c→¬Shun (.cell p)):=fun c hc=>by
  have hT:∀T:Nat→Prop,(∀b,T b→(Sx S n b∨W.heap.size≤b)∧b<w₁.heap.size∧b≠n+5∧b≠n+3)→T c→c<w₁.heap.size+1∧c≠n+5∧(∀p:Addr,p.block=c→¬Shun (.cell p)):=fun T hT h=>by
   obtain⟨k1,k2,k3,_⟩:=hT c h;refine⟨by omega,k3,fun p hp=>?_⟩;rcases k1 with(k1|k1)|k1
   ·exact(X.held c k1).2 p hp
   ·exact RM p (by omega)
   ·exact RM p (by omega)
  rcases ks c hc with rfl|⟨b,hb⟩|h|h
  ·exact⟨by omega,by omega,fun p hp=>RM p (by omega)⟩
  ·have:=(H.holds c).2 ⟨b,hb⟩
   exact⟨by have:=GY c this;omega,by have:=GY c this;omega,(X.held c this).2⟩
  ·exact hT T0 iU h
  ·exact hT T1 NC h
 have Gz:=hD.size;obtain⟨ie,mZ,asL,DL,XO,lK,yg,asM,Ir,_,aeI,⟨v',rfl,fj,QR⟩,aeJ,ym,apd,u_,RQ⟩:=Rh ajB _ w₂ Iz Dy Hs S0 (Zj _) (DM.refl _ _) Ks.main Ks.old (by rw[Gz.1];exact Ks.past) (fun b hb=>⟨by have:=(hDs b hb).1;omega,fun p hp hs=>by
   rcases hs with hs|⟨a,e,h⟩
   ·exact(hDs b hb).2.2 p hp hs
   ·cases e;exact(hDs b hb).2.1 (by omega)⟩) IE
 have ape:=RQ.size;have Xk:∀b,b<n→DL.heap[b]?=w'.heap[b]? :=fun b hb=>by
  rw[RQ.still b (by omega) ?_,Xj b hb];by_cases h:D b
  ·exact .inr h
  ·exact .inl h
 obtain⟨y9,y10,xV,y13,y14,y15,y16,y17,y18,y19,y20,y21,xW,xX,xY,xZ,x_,yd,ye,yf,y30,y31,rfl⟩:=hT;obtain⟨aeE,WX,ajy,Km,WY,lM,qL,Rj,⟨rfl,aeF,rfl⟩,XP⟩:=B6 (sl:=XO) (fun _ _ _ h=>h) (a:=G ((XJ (TK n (.agg gc') (.slice bG ln lc) (.slice pI sn sc) y9 y13 y14 y15 y16 y17 y18 y19 y10 xV y20 y21 xW xX xY xZ x_ yd ye yf y30 y31) [1,2]).finish v') (f'::cs')) ⟨aeI,aeJ,ym⟩ (mS (Shun:=fun l=>Shun l∨LU (n+5) l) (B:=DL.heap.size) (W:=DL));have Bs:runNT Zd (ajA+(LR+(ie+aeE))) (Yg gs w' sl) t=(.next (Yg WX (DL.at aeF) WY),lM):=by
  rw[Go.BK.runNT_add _ _ _ _ _ _ fG,Go.BK.runNT_add _ _ _ _ _ _ Fo,Go.BK.runNT_add _ _ _ _ _ _ Ir];exact Rj
 have We:DL.os=w'.os∧DL.tape=w'.tape∧DL.output=w'.output:=by
  refine⟨?_,?_,?_⟩
  ·rw[RQ.os,hD.os,hJ.os,hL.os]
  ·rw[RQ.tape,hD.tape,hJ.tape,hL.tape]
  ·rw[RQ.output,hD.output,hJ.output,hL.output]
 have fI:∀b,S b→∀p:Addr,p.block=b→¬(Shun (.cell p)∨LU (n+5) (.cell p)):=fun b hb p hp hs=>by
  rcases hs with hs|⟨a,e,h⟩
  ·exact(X.held b hb).2 p hp hs
  ·cases e
   have:=GY b hb;omega
 have hlen:=Qu rows AZ fit 0 ln;have JI:B.lcs.length<(f::cs).length:=hS.deep;rcases Yr (CN AZ fit 0 ln).length with hz|Ff
 ·obtain⟨v,wL,hB,Wb,_,hP⟩:=fC hl nf JI HP hM (k:=(CN rows fit 0 ln).length) (Zj _) (by
   have h1:=C9 (rows:=rows) (fit:=fit) (lo:=0) (hi:=ln);have h2:=HP.small;have:maxLen=9223372036854775807:=rfl;omega)
  rw[Wb (by omega)]at hP;rw[fj hz]at XP;exact Md (Shun₁:=fun l=>Shun l∨LU (n+5) l) H hS BI Bs hP hB.block hB.os hB.size XP (fun b hb=>Xk b (by omega)) (by show w'.heap.size≤DL.heap.size;omega) We u_ (Ren.le_refl ρ) (fun b c h=>.inl h) fI (.slice 0 0 trivial)
 ·obtain⟨r',k,cs',fz,rfl,hk1,hk2,M_,hSr,hcr,wD,hcs⟩:=QR Ff
  obtain⟨v,wL,hB,_,mY,hP⟩:=fC hl nf JI HP hM (k:=k) (by omega) M_;obtain⟨r,rfl,Wc,PV⟩:=mY (by omega);have vb:ρ.PT r r':=⟨fun b hb=>by have:=(H.world.lt hb).2;omega,by have:=(H.world.lt ρ.base).1;omega,by have:=(H.world.lt ρ.base).2;omega⟩;have hle:ρ.le (ρ.ext r r' vb):=⟨fun b c h=>by
   have:=(H.world.lt h).1;show(if b=r then some r' else ρ b)=some c;rw[if_neg (by omega)];exact h,rfl,rfl,rfl⟩
  have FD:r'<DL.heap.size:=(Za.1 hcr).1;refine Md (Shun₁:=fun l=>Shun l∨LU (n+5) l) H hS BI Bs hP hB.block hB.os hB.size XP (fun b hb=>Xk b (by omega)) (by show w'.heap.size≤DL.heap.size;omega) We u_ hle (fun b c h=>?_) fI ?_
  ·rcases Vr vb h with h|⟨rfl,rfl⟩
   ·exact .inl h
   ·refine .inr ⟨Wc,by omega,FD,fun p hp hs=>?_,_,_,PV.2,hcr,.cells 22 ?_ (.inr (.inl wD))⟩
    ·rcases hs with hs|⟨a,e,h⟩
     ·exact RM p (by omega) hs
     ·cases e;omega
    ·rw[hcs, ←hlen]
     refine⟨by simp[hlen],fun i v x h1 h2=>?_⟩;rw[Array.getElem?_append]at h1 h2;have Ru:(CN rows fit 0 ln).toArray.size=(CN AZ fit 0 ln).toArray.size:=by simp[hlen]
     rw[Ru]at h1;split at h1
     ·next Az=>
      rw[if_pos Az]at h2;rw[ZY]at h1 h2;obtain⟨j,_,hj,rfl,hj4⟩:=M9 h1;rw[hj4 AZ]at h2;cases h2;exact(hR j hj).mono hle
     ·next Az=>
      rw[if_neg Az]at h2;have e1:=(zM h1);have e2:=(zM h2);rw[Array.mem_replicate]at e1 e2;rw[e1.2,e2.2];exact .slice _ _ trivial
  ·rw[hlen]
   exact .slice _ _ ⟨if_pos rfl,rfl,rfl⟩
end
end Go.Proofs.Fit
