/- Part of a proof. -/
import Derived.Test.YtkkjobdfheidkaaGreatDoorQ07
import Derived.BigQuiet
import Derived.Deep.LoopGhost
import Derived.WalkSmall
import Derived.StillTailTactics
import Derived.Deep.RegionHeld3
import Derived.Laws.CopyOwn
set_option maxRecDepth 100000
set_option maxHeartbeats 6400000
open Array renaming getElem?_modify→Zag,getElem?_eq_some_iff→Za
open Go renaming World→Zb,Value→Zc,below_drewN→Zan,TypeId→Zs,bodyPost_ret→ZX,results_cell_tmp→Yp,Program→Zp,undef→Ze
open Go.Lib renaming hid→Zh
open Go.Proofs.Tryz renaming underlying22→ZaF
open Go.Result renaming andThen→zB
open Go.RowKit renaming Below→Zm
open Go.RowKit.Below renaming refl→Zi,heap_setCell→Y9,heap_alloc→zx
open Go.Sem renaming run_bind→za
open Go.Value renaming int→ZT
open Go.World renaming block_lt_of_cell?→ZH,cell?→zJ,size_alloc→ZG,frozen?→Yu,setCell→Z1
open List renaming getElem?_eq_some_iff→Zo,drop_eq_getElem_cons→Z4,drop_eq_nil_iff→zf,range→ZaB,getElem?_map→ZaT
open Nat renaming le_refl→Zj,zero_le→Zt,not_lt_zero→Zal,lt_of_lt_of_le→Zl
namespace Go.Proofs.Fit
open Go
theorem n3:Tryz.f3.ntmps=148:=rfl
theorem n4:Tryz.f4.ntmps=178:=rfl
theorem n5:Tryz.f5.ntmps=127:=rfl
theorem n26:Tryz.f26.ntmps=119:=rfl
theorem n27:Tryz.f27.ntmps=6:=rfl
theorem n29:Tryz.f29.ntmps=14:=rfl
theorem n30:Tryz.f30.ntmps=32:=rfl
theorem n32:Tryz.f32.ntmps=6:=rfl
theorem n33:Tryz.f33.ntmps=37:=rfl
theorem n34:Tryz.f34.ntmps=65:=rfl
theorem n37:Tryz.f37.ntmps=27:=rfl
theorem n40:Tryz.f40.ntmps=6:=rfl
theorem n41:Tryz.f41.ntmps=96:=rfl
theorem n44:Tryz.f44.ntmps=75:=rfl
theorem n45:Tryz.f45.ntmps=27:=rfl
theorem n46:Tryz.f46.ntmps=26:=rfl
theorem n47:Tryz.f47.ntmps=56:=rfl
theorem n54:Tryz.f54.ntmps=70:=rfl
theorem n61:Tryz.f61.ntmps=14:=rfl
theorem n62:Tryz.f62.ntmps=30:=rfl
theorem n69:Tryz.f69.ntmps=54:=rfl
theorem n84:Tryz.f84.ntmps=29:=rfl
theorem n85:Tryz.f85.ntmps=16:=rfl
theorem n86:Tryz.f86.ntmps=13:=rfl
theorem n87:Tryz.f87.ntmps=67:=rfl
theorem n88:Tryz.f88.ntmps=51:=rfl
theorem n89:Tryz.f89.ntmps=41:=rfl
theorem n90:Tryz.f90.ntmps=32:=rfl
theorem n92:Tryz.f92.ntmps=35:=rfl
theorem n98:Tryz.f98.ntmps=13:=rfl
theorem n99:Tryz.f99.ntmps=10:=rfl
theorem akW:Tryz.f100.ntmps=12:=rfl
theorem yF:Tryz.f101.ntmps=34:=rfl
theorem akX:Tryz.f102.ntmps=5:=rfl
theorem akY:Tryz.f103.ntmps=4:=rfl
theorem af8:Tryz.f105.ntmps=114:=rfl
theorem rV:Tryz.f106.ntmps=8:=rfl
theorem akZ:Tryz.f110.ntmps=84:=rfl
theorem al0:Tryz.f111.ntmps=86:=rfl
theorem al1:Tryz.f112.ntmps=21:=rfl
theorem al2:Tryz.f113.ntmps=47:=rfl
theorem yG:Tryz.f119.ntmps=32:=rfl
theorem al3:Tryz.f120.ntmps=17:=rfl
theorem al4:Tryz.f122.ntmps=10:=rfl
theorem al5:Tryz.f123.ntmps=9:=rfl
theorem al6:Tryz.f126.ntmps=76:=rfl
theorem al7:Tryz.f134.ntmps=15:=rfl
theorem al8:Tryz.f136.ntmps=5:=rfl
theorem al9:Tryz.f139.ntmps=33:=rfl
theorem ala:Tryz.f143.ntmps=65:=rfl
theorem alb:Tryz.f144.ntmps=107:=rfl
theorem alc:Tryz.f145.ntmps=66:=rfl
theorem ald:Tryz.f150.ntmps=54:=rfl
theorem ale:Tryz.f151.ntmps=24:=rfl
theorem alf:Tryz.f152.ntmps=13:=rfl
theorem alg:Tryz.f153.ntmps=13:=rfl
theorem af9:Tryz.f154.ntmps=43:=rfl
theorem alh:Tryz.f161.ntmps=15:=rfl
theorem ali:Tryz.f162.ntmps=6:=rfl
theorem afa:Tryz.f166.ntmps=8:=rfl
theorem alj:Tryz.f167.ntmps=8:=rfl
theorem afb:Tryz.f168.ntmps=8:=rfl
end Go.Proofs.Fit
namespace Go.Proofs.Fit
open Go Go.RowKit
theorem DN:maxLen=9223372036854775807:=rfl
def CC (S:Nat→Prop)(w w':Zb):Prop:=∀b,S b→b<w.heap.size→w'.heap[b]?=w.heap[b]?
theorem CC.cell {S:Nat→Prop}{w w':Zb}(h:CC S w w'){p:Addr}{v:Zc}(hs:S p.block)(hc:w.cell? p=some v):w'.cell? p=some v:=by
 have:=h p.block hs (ZH w _ hc);unfold zJ at*;rw[this];exact hc
theorem CC.Eu {S:Nat→Prop}{w w':Zb}(h:Zm w.heap.size w w'):CC S w w':=fun b _ hb=>h.block b hb
theorem CC.refl (S:Nat→Prop)(w:Zb):CC S w w:=fun _ _ _=>rfl
def Sl {α:Type}(S:Nat→Prop)(R:Zb→List Zc→α→Prop)(k:Nat)(w:Zb)(v:Zc)(l:List α):Prop:=
 ∃a c,v=.slice a l.length c∧l.length≤c∧c≤maxLen∧∀i x,l[i]?=some x→∃b o cs,a=some ⟨b,o,none⟩∧S b∧cs.length=k∧(∀j u,cs[j]?=some u→w.cell? ⟨b,o+i*k+j,none⟩=some u)∧R w cs x
section
variable {α:Type}{S T:Nat→Prop}{R R':Zb→List Zc→α→Prop}{k:Nat}{w w':Zb}{v:Zc}{l:List α}
theorem Sl.imp (h:Sl S R k w v l)(hs:∀b,S b→T b)(hR:∀cs x,R w cs x→R' w cs x):Sl T R' k w v l:=by
 obtain⟨a,c,h1,h2,h3,h4⟩:=h;refine⟨a,c,h1,h2,h3,fun i x hx=>?_⟩;obtain⟨b,o,cs,g1,g2,g3,g4,g5⟩:=h4 i x hx;exact⟨b,o,cs,g1,hs b g2,g3,g4,hR _ _ g5⟩
theorem Sl.Au (h:Sl S R k w v l)(hw:CC S w w')(hR:∀cs x,R w cs x→R w' cs x):Sl S R k w' v l:=by
 obtain⟨a,c,h1,h2,h3,h4⟩:=h;refine⟨a,c,h1,h2,h3,fun i x hx=>?_⟩;obtain⟨b,o,cs,g1,g2,g3,g4,g5⟩:=h4 i x hx;exact⟨b,o,cs,g1,g2,g3,fun j u hu=>hw.cell (p:=⟨b,o+i*k+j,none⟩) g2 (g4 j u hu),hR _ _ g5⟩
theorem Sl.val (h:Sl S R k w v l):∃a c,v=.slice a l.length c∧l.length≤c∧c≤maxLen:=by
 obtain⟨a,c,h1,h2,h3,_⟩:=h;exact⟨a,c,h1,h2,h3⟩
end
def Ri (_:Zb)(cs:List Zc)(x:Int):Prop:=cs=[.int .i64 x]
def Rp (_:Zb)(cs:List Zc)(x:Int×Int):Prop:=cs=[.int .i64 x.1,.int .i64 x.2]
abbrev SI (S:Nat→Prop):=Sl S Ri 1
abbrev SP (S:Nat→Prop):=Sl S Rp 2
theorem SI.Au {S:Nat→Prop}{w w':Zb}{v:Zc}{l:List Int}(h:SI S w v l)(hw:CC S w w'):SI S w' v l:=Sl.Au h hw fun _ _ h=>h
theorem SP.Au {S:Nat→Prop}{w w':Zb}{v:Zc}{l:List (Int×Int)}(h:SP S w v l)(hw:CC S w w'):SP S w' v l:=Sl.Au h hw fun _ _ h=>h
def nth (l:List Int)(i:Nat):Int:=l.getD i 0
def B1 (l:List (Int×Int))(i:Nat):Int×Int:=l.getD i (0,0)
theorem Bo {l:List Int}{i:Nat}(h:i<l.length):l[i]?=some (nth l i):=by simp[nth,h]
theorem D5 {l:List (Int×Int)}{i:Nat}(h:i<l.length):l[i]?=some (B1 l i):=by simp[B1,h]
theorem SI.at_ {S:Nat→Prop}{w:Zb}{a:Option Addr}{c:Nat}{l:List Int}(h:SI S w (.slice a l.length c) l){i:Nat}(hi:i<l.length):∃b o,a=some ⟨b,o,none⟩∧S b∧w.cell? ⟨b,o+i,none⟩=some (.int .i64 (nth l i)):=by
 obtain⟨a',c',h1,_,_,h4⟩:=h;cases h1;obtain⟨b,o,cs,g1,g2,g3,g4,g5⟩:=h4 i _ (Bo hi);subst g5;exact⟨b,o,g1,g2,by simpa using g4 0 _ rfl⟩
theorem SP.at_ {S:Nat→Prop}{w:Zb}{a:Option Addr}{c:Nat}{l:List (Int×Int)}(h:SP S w (.slice a l.length c) l){i:Nat}(hi:i<l.length):
  ∃b o,a=some ⟨b,o,none⟩∧S b∧w.cell? ⟨b,o+i*2,none⟩=some (.int .i64 (B1 l i).1)∧w.cell? ⟨b,o+i*2+1,none⟩=some (.int .i64 (B1 l i).2):=by
 obtain⟨a',c',h1,_,_,h4⟩:=h;cases h1;obtain⟨b,o,cs,g1,g2,g3,g4,g5⟩:=h4 i _ (D5 hi);unfold Rp at g5;subst g5;exact⟨b,o,g1,g2,by simpa using g4 0 _ rfl,by simpa using g4 1 _ rfl⟩
def AD (n lo hi:Int):Bool:=decide (n<lo)||decide (hi<n)
def C_ (n most:Int):Int:=if n=0 then 7 else if most<n then 6 else 0
def CK (p:Int×Int)(lo hi:Int):Int:=if AD p.1 lo hi=true∨AD p.2 lo hi=true then 1 else if p.2<p.1 then 5 else 0
def Jk (n:Int)(p:Int×Int):Bool:=decide (p.1≤n)&&decide (n≤p.2)
theorem X_ (n lo hi:Int)(w:Zb):Calls Lp 134 #[.int .i64 n,.int .i64 lo,.int .i64 hi] w fun e w'=>e=.returned (.bool (AD n lo hi))∧w'=w:=by
 go_enter Lp.func134,al7;go_wp2
 all_goals go_ret
 ·exact⟨rfl,rfl⟩
 ·exact⟨by simp[AD, *],rfl⟩
theorem rW (n most:Int)(w:Zb):Calls Lp 100 #[.int .i64 n,.int .i64 most] w fun e w'=>e=.returned (.int .i64 (C_ n most))∧w'=w:=by
 go_enter Lp.func100,akW;go_wp2
 all_goals go_ret
 all_goals simp_all[C_]
theorem afc (n a b:Int)(w:Zb):Calls Lp 161 #[.int .i64 n,.agg #[.int .i64 a,.int .i64 b]] w fun e w'=>e=.returned (.bool (Jk n (a,b)))∧Zm w.heap.size w w':=by
 go_enter Lp.func161,alh;go_wp2
 all_goals go_ret
 all_goals refine⟨?_,(Zi _ _).alloc (Zj _) _⟩
 all_goals simp[Jk, *]
 all_goals omega
theorem yH (a b:Int)(lo hi:Int)(w:Zb):Calls Lp 151 #[.agg #[.int .i64 a,.int .i64 b],.int .i64 lo,.int .i64 hi] w fun e w'=>e=.returned (.int .i64 (CK (a,b) lo hi))∧Zm w.heap.size w w':=by
 go_enter Lp.func151,ale;go_wp2_with (go_at_call 134;refine(X_ _ _ _ _).mono ?_;rintro e w' ⟨rfl,rfl⟩)
 all_goals go_ret
 all_goals refine⟨?_,(Zi _ _).alloc (Zj _) _⟩
 all_goals simp_all[CK]
 all_goals omega
structure Ax where
 low:Int
 high:Int
 Ak:List (Int×Int)
 over:List Int
 left:Int
structure Aw where
 base:List Int
 Ag:List (Int×Int)
 hooks:List Int
 Aa:List Ax
 now:List Int
def Rs (S:Nat→Prop)(w:Zb)(cs:List Zc)(s:Ax):Prop:=∃v2 v3,cs=[.int .i64 s.low,.int .i64 s.high,v2,v3,.int .i64 s.left]∧SP S w v2 s.Ak∧SI S w v3 s.over
abbrev SS (S:Nat→Prop):=Sl S (Rs S) 5
structure RC (S:Nat→Prop)(w:Zb)(v1 v2 v3 v4 v5:Zc)(c:Aw):Prop where
 base:SI S w v1 c.base
 Ag:SP S w v2 c.Ag
 hooks:SI S w v3 c.hooks
 Aa:SS S w v4 c.Aa
 now:SI S w v5 c.now
theorem Rs.Au {S:Nat→Prop}{w w':Zb}{cs:List Zc}{s:Ax}(h:Rs S w cs s)(hw:CC S w w'):Rs S w' cs s:=by
 obtain⟨v2,v3,h1,h2,h3⟩:=h;exact⟨v2,v3,h1,h2.Au hw,h3.Au hw⟩
theorem SS.Au {S:Nat→Prop}{w w':Zb}{v:Zc}{l:List Ax}(h:SS S w v l)(hw:CC S w w'):SS S w' v l:=Sl.Au h hw fun _ _ h=>h.Au hw
theorem RC.Au {S:Nat→Prop}{w w':Zb}{v1 v2 v3 v4 v5:Zc}{c:Aw}(h:RC S w v1 v2 v3 v4 v5 c)(hw:CC S w w'):RC S w' v1 v2 v3 v4 v5 c:=
 ⟨h.base.Au hw,h.Ag.Au hw,h.hooks.Au hw,h.Aa.Au hw,h.now.Au hw⟩
section
variable {α:Type}
def A4 (f:α→Int):List α→Int
 | []=>0
 |x::r=>if f x=0 then A4 f r else f x
theorem EO {f:α→Int}{l:List α}{k:Nat}{x:α}(h:l[k]?=some x):A4 f (l.drop k)=if f x=0 then A4 f (l.drop (k+1)) else f x:=by
 obtain⟨hk,rfl⟩:=Zo.1 h;rw[Z4 hk]
 rfl
theorem FJ {f:α→Int}{l:List α}{k:Nat}(h:l.length≤k):A4 f (l.drop k)=0:=by
 rw[zf.2 h];rfl
end
def E0 (lo hi:Int)(n:Int):Int:=if AD n lo hi=true then 1 else 0
theorem Vz {lo hi n:Int}(h:AD n lo hi=true):E0 lo hi n=1:=if_pos h
theorem RZ {lo hi n:Int}(h:AD n lo hi=false):E0 lo hi n=0:=if_neg (by rw[h];decide)
def PE (a b:Int):Int:=if a=0 then b else a
theorem BP {a b:Int}(h:a=0):PE a b=b:=if_pos h
theorem Ku {a b:Int}(h:a≠0):PE a b=a:=if_neg h
theorem Bp {a b:Int}(h:a=b):Ending.returned (.int .i64 a)=.returned (.int .i64 b):=by rw[h]
theorem Ug {a b:Nat}(h:((a:Int) !=b)=false):a=b:=by simp at h;omega
theorem vj {a b:Nat}(h:((a:Int) !=b)=true):a≠b:=by simp at h;omega
theorem Fp {a:Int}(h:(a !=0)=false):a=0:=by simpa using h
theorem Gd {a:Int}(h:(a !=0)=true):a≠0:=by simpa using h
def De (c:Aw):Int:=
 PE (C_ c.base.length 3) (PE (A4 (E0 1 60) c.base) (if c.Ag.length≠c.base.length then 9 else PE (A4 (fun p=>CK p (-9) 9) c.Ag) (if c.hooks.length≠c.base.length then 9 else A4 (E0 0 5) c.hooks)))
theorem alk {S:Nat→Prop}{w:Zb}{v1 v2 v3 v4 v5:Zc}{c:Aw}(h:RC S w v1 v2 v3 v4 v5 c)(hS:∀b,S b→b<w.heap.size):Calls Lp 143 #[.agg #[v1,v2,v3,v4,v5]] w fun e w'=>e=.returned (.int .i64 (De c))∧Zm w.heap.size w w':=by
 obtain⟨a1,c1,rfl,l1,m1⟩:=h.base.val;obtain⟨a2,c2,rfl,l2,m2⟩:=h.Ag.val;obtain⟨a3,c3,rfl,l3,m3⟩:=h.hooks.val;obtain⟨a4,c4,rfl,l4,m4⟩:=h.Aa.val;obtain⟨a5,c5,rfl,l5,m5⟩:=h.now.val;have I3:=DN;have hB:Zm w.heap.size w (w.alloc (.cells #[.slice a1 c.base.length c1,.slice a2 c.Ag.length c2,.slice a3 c.hooks.length c3,.slice a4 c.Aa.length c4,.slice a5 c.now.length c5] 26)):=(Zi _ _).alloc (Zj _) _;go_enter Lp.func143,ala;go_wp2_with (go_at_call 100;refine(rW _ _ _).mono ?_;rintro e w' ⟨rfl,rfl⟩)
 ·have q1:(C_ c.base.length 3 !=0)=true:=by assumption
  go_ret;exact⟨Bp (by rw[De,Ku (Gd q1)]),hB⟩
 rename (C_ _ _ !=0)=false=>q1
 have Q1:=Zh q1;clear q1;go_loopg [21] c.base.length (fun g i wr=>∃k:Nat,k≤c.base.length∧g=c.base.length - k∧i=.int .i64 k∧A4 (E0 1 60) (c.base.drop k)=A4 (E0 1 60) c.base∧wr=(w.alloc (.cells #[.slice a1 c.base.length c1,.slice a2 c.Ag.length c2,.slice a3 c.hooks.length c3,.slice a4 c.Aa.length c4,.slice a5 c.now.length c5] 26)))
 case atStart=>exact⟨0,Zt _,rfl,rfl,rfl,rfl⟩
 case round=>
  obtain⟨k,hk,rfl,rfl,CO,rfl⟩:=hrel;have hf:=Zh CO;clear CO;by_cases Az:k<c.base.length
  ·obtain⟨b,o,rfl,hb,hc⟩:=h.base.at_ Az
   have NT:=hB.cell (p:=⟨b,o+k,none⟩) (hS b hb);rw[hc]at NT;have hd:=Zh (EO (f:=E0 1 60) (Bo Az));go_wp2_with (go_at_call 134;refine(X_ _ _ _ _).mono ?_;rintro e w' ⟨rfl,rfl⟩)
   ·have q2:AD (nth c.base k) 1 60=true:=by assumption
    go_ret;have e2:A4 (E0 1 60) c.base=1:=by rw[←hf.out,hd.out,Vz q2];rfl
    exact⟨Bp (by rw[De,BP (Fp Q1.out),e2];rfl),hB⟩
   ·have q2:AD (nth c.base k) 1 60=false:=by assumption
    go_roundg (c.base.length - (k+1))
    case rel=>exact⟨k+1,by omega,rfl,by go_num,by rw[←hf.out,hd.out,RZ q2];rfl,rfl⟩
    case measure=>omega
  ·have Q2:=Zh (show A4 (E0 1 60) c.base=0 by rw[←hf.out];exact FJ (by omega))
   clear hf;go_wp2
   ·have q3:((c.Ag.length:Int) !=c.base.length)=true:=by assumption
    go_ret;exact⟨Bp (by rw[De,BP (Fp Q1.out),BP Q2.out,if_pos (vj q3)]),hB⟩
   rename (_ !=_)=false=>q3
   have Q3:=Zh q3;clear q3;go_loopg [38] c.Ag.length (fun g i wr=>∃k:Nat,k≤c.Ag.length∧g=c.Ag.length - k∧i=.int .i64 k∧A4 (fun p=>CK p (-9) 9) (c.Ag.drop k)=A4 (fun p=>CK p (-9) 9) c.Ag∧Zm w.heap.size w wr∧wr.cell? ⟨w.heap.size,0,none⟩=some (.slice a1 c.base.length c1)∧wr.cell? ⟨w.heap.size,2,none⟩=some (.slice a3 c.hooks.length c3))
   case atStart=>exact⟨0,Zt _,rfl,rfl,rfl,hB,by simp,by simp⟩
   case round=>
    obtain⟨k,hk,rfl,rfl,CO,Bh,Qa,Oh⟩:=hrel;have hf:=Zh CO;clear CO;by_cases Az:k<c.Ag.length
    ·obtain⟨b,o,rfl,hb,hca,kp⟩:=h.Ag.at_ Az
     rw[←Bh.cell (p:=⟨b,o+k*2,none⟩) (hS b hb)]at hca;rw[←Bh.cell (p:=⟨b,o+k*2+1,none⟩) (hS b hb)]at kp;have hd:=Zh (EO (f:=fun p=>CK p (-9) 9) (D5 Az));go_wp2_with (go_at_call 151;refine(yH _ _ _ _ _).mono ?_;rintro e w' ⟨rfl,BA⟩)
     ·have q4:(CK (B1 c.Ag k) (-9) 9 !=0)=true:=by assumption
      go_ret;have e4:A4 (fun p=>CK p (-9) 9) c.Ag=CK (B1 c.Ag k) (-9) 9:=by rw[←hf.out,hd.out,if_neg (Gd q4)]
      exact⟨Bp (by rw[De,BP (Fp Q1.out),BP Q2.out,if_neg (fun x=>x (Ug Q3.out)),e4,Ku (Gd q4)]),(Bh.alloc Bh.size _).trans (BA.mono (by simp;have:=Bh.size;omega))⟩
     ·have q4:(CK (B1 c.Ag k) (-9) 9 !=0)=false:=by assumption
      have Dz:Zm w.heap.size w w':=(Bh.alloc Bh.size _).trans (BA.mono (by simp;have:=Bh.size;omega));have pG:w.heap.size<wr.heap.size:=ZH wr _ Qa;have aln:=(BA.cell (p:=⟨w.heap.size,0,none⟩) (by simp;omega)).trans ((World.cell?_alloc_lt _ _ _ pG).trans Qa);have alo:=(BA.cell (p:=⟨w.heap.size,2,none⟩) (by simp;omega)).trans ((World.cell?_alloc_lt _ _ _ pG).trans Oh);go_roundg (c.Ag.length - (k+1))
      case rel=>exact⟨k+1,by omega,rfl,by go_num,by rw[←hf.out,hd.out,if_pos (Fp q4)],Dz,aln,alo⟩
      case measure=>omega
    ·have Q4:=Zh (show A4 (fun p=>CK p (-9) 9) c.Ag=0 by rw[←hf.out];exact FJ (by omega))
     clear hf;go_wp2
     ·have q5:((c.hooks.length:Int) !=c.base.length)=true:=by assumption
      go_ret;exact⟨Bp (by rw[De,BP (Fp Q1.out),BP Q2.out,if_neg (fun x=>x (Ug Q3.out)),BP Q4.out,if_pos (vj q5)]),Bh⟩
     rename (_ !=_)=false=>q5
     have Q5:=Zh q5;clear q5;go_loopg [58] c.hooks.length (fun g i wx=>∃k:Nat,k≤c.hooks.length∧g=c.hooks.length - k∧i=.int .i64 k∧A4 (E0 0 5) (c.hooks.drop k)=A4 (E0 0 5) c.hooks∧wx=wr)
     case atStart=>exact⟨0,Zt _,rfl,rfl,rfl,rfl⟩
     case round=>
      obtain⟨k,hk,rfl,rfl,CO,rfl⟩:=hrel;have hf:=Zh CO;clear CO;by_cases Az:k<c.hooks.length
      ·obtain⟨b,o,rfl,hb,hc⟩:=h.hooks.at_ Az
       rw[←Bh.cell (p:=⟨b,o+k,none⟩) (hS b hb)]at hc;have hd:=Zh (EO (f:=E0 0 5) (Bo Az));go_wp2_with (go_at_call 134;refine(X_ _ _ _ _).mono ?_;rintro e w' ⟨rfl,rfl⟩)
       ·have q2:AD (nth c.hooks k) 0 5=true:=by assumption
        go_ret;have e2:A4 (E0 0 5) c.hooks=1:=by rw[←hf.out,hd.out,Vz q2];rfl
        exact⟨Bp (by rw[De,BP (Fp Q1.out),BP Q2.out,if_neg (fun x=>x (Ug Q3.out)),BP Q4.out,if_neg (fun x=>x (Ug Q5.out)),e2]),Bh⟩
       ·have q2:AD (nth c.hooks k) 0 5=false:=by assumption
        go_roundg (c.hooks.length - (k+1))
        case rel=>exact⟨k+1,by omega,rfl,by go_num,by rw[←hf.out,hd.out,RZ q2];rfl,rfl⟩
        case measure=>omega
      ·have Q6:=Zh (show A4 (E0 0 5) c.hooks=0 by rw[←hf.out];exact FJ (by omega))
       clear hf;go_wp2;go_ret;exact⟨Bp (by rw[De,BP (Fp Q1.out),BP Q2.out,if_neg (fun x=>x (Ug Q3.out)),BP Q4.out,if_neg (fun x=>x (Ug Q5.out)),Q6.out]),Bh⟩
def nH:Ax:=⟨0,0,[],[],0⟩
def Aj (l:List Ax)(i:Nat):Ax:=l.getD i nH
theorem Dk {l:List Ax}{i:Nat}(h:i<l.length):l[i]?=some (Aj l i):=by simp[Aj,h]
theorem SS.at_ {S:Nat→Prop}{w:Zb}{a:Option Addr}{n c:Nat}{l:List Ax}(h:SS S w (.slice a n c) l){i:Nat}(hi:i<l.length):
  ∃b o v2 v3,a=some ⟨b,o,none⟩∧S b∧w.cell? ⟨b,o+i*5,none⟩=some (.int .i64 (Aj l i).low)∧w.cell? ⟨b,o+i*5+1,none⟩=some (.int .i64 (Aj l i).high)∧
   w.cell? ⟨b,o+i*5+2,none⟩=some v2∧w.cell? ⟨b,o+i*5+3,none⟩=some v3∧w.cell? ⟨b,o+i*5+4,none⟩=some (.int .i64 (Aj l i).left)∧SP S w v2 (Aj l i).Ak∧SI S w v3 (Aj l i).over:=by
 obtain⟨a',c',h1,_,_,h4⟩:=h;cases h1;obtain⟨b,o,cs,g1,g2,g3,g4,v2,v3,rfl,g6,g7⟩:=h4 i _ (Dk hi);exact⟨b,o,v2,v3,g1,g2,by simpa using g4 0 _ rfl,g4 1 _ rfl,g4 2 _ rfl,g4 3 _ rfl,g4 4 _ rfl,g6,g7⟩
def Cj (c:Aw)(l:List Int):Int:=if l.length<c.Aa.length then 7 else if c.Aa.length<l.length then 6 else A4 (fun p:Int×Ax=>E0 p.2.low p.2.high p.1) (l.zip c.Aa)
theorem Na {l:List Int}{m:List Ax}{k:Nat}(h1:k<l.length)(h2:k<m.length):(l.zip m)[k]?=some (nth l k,Aj m k):=by
 rw[List.getElem?_zip_eq_some];exact⟨Bo h1,Dk h2⟩
theorem c89 {S:Nat→Prop}{w:Zb}{v1 v2 v3 v4 v5 v6:Zc}{c:Aw}{l:List Int}(h:RC S w v1 v2 v3 v4 v5 c)(hl:SI S w v6 l)(hS:∀b,S b→b<w.heap.size):Calls Lp 89 #[.agg #[v1,v2,v3,v4,v5],v6] w fun e w'=>e=.returned (.int .i64 (Cj c l))∧Zm w.heap.size w w':=by
 obtain⟨a1,c1,rfl,l1,m1⟩:=h.base.val;obtain⟨a2,c2,rfl,l2,m2⟩:=h.Ag.val;obtain⟨a3,c3,rfl,l3,m3⟩:=h.hooks.val;obtain⟨a4,c4,rfl,l4,m4⟩:=h.Aa.val;obtain⟨a5,c5,rfl,l5,m5⟩:=h.now.val;obtain⟨a6,c6,rfl,l6,m6⟩:=hl.val;have I3:=DN;have hB:Zm w.heap.size w (w.alloc (.cells #[.slice a1 c.base.length c1,.slice a2 c.Ag.length c2,.slice a3 c.hooks.length c3,.slice a4 c.Aa.length c4,.slice a5 c.now.length c5] 26)):=(Zi _ _).alloc (Zj _) _;by_cases Wh:l.length<c.Aa.length
 ·go_enter Lp.func89,n89
  go_wp2;go_ret;exact⟨Bp (by rw[Cj,if_pos Wh]),hB⟩
 by_cases Me:c.Aa.length<l.length
 ·go_enter Lp.func89,n89
  go_wp2;go_ret;exact⟨Bp (by rw[Cj,if_neg Wh,if_pos Me]),hB⟩
 have hle:l.length=c.Aa.length:=by omega
 have hE:Cj c l=A4 (fun p:Int×Ax=>E0 p.2.low p.2.high p.1) (l.zip c.Aa):=by rw[Cj,if_neg Wh,if_neg Me]
 have hzl:(l.zip c.Aa).length=l.length:=by simp[hle]
 have HE:=Zh hE;have HZ:=Zh hzl;have HL:=Zh hle;clear hE hzl hle;go_enter Lp.func89,n89;go_wp2;go_loopg [21] l.length (fun g i wr=>∃k:Nat,k≤l.length∧g=l.length - k∧i=.int .i64 k∧A4 (fun p:Int×Ax=>E0 p.2.low p.2.high p.1) ((l.zip c.Aa).drop k)=A4 (fun p:Int×Ax=>E0 p.2.low p.2.high p.1) (l.zip c.Aa)∧Zm w.heap.size w wr∧wr.cell? ⟨w.heap.size,3,none⟩=some (.slice a4 c.Aa.length c4))
 case atStart=>exact⟨0,Zt _,rfl,rfl,rfl,hB,by simp⟩
 case round=>
  obtain⟨k,hk,rfl,rfl,CO,Bh,kp⟩:=hrel;have hf:=Zh CO;clear CO;by_cases Az:k<l.length
  ·have GQ:k<c.Aa.length:=by have:=HL.out;omega
   obtain⟨b,o,rfl,hb,hc⟩:=hl.at_ Az;obtain⟨b',o',s2,s3,rfl,GL,PF,Ny,_⟩:=h.Aa.at_ GQ;rw[←Bh.cell (p:=⟨b,o+k,none⟩) (hS b hb)]at hc;rw[←Bh.cell (p:=⟨b',o'+k*5,none⟩) (hS b' GL)]at PF;rw[←Bh.cell (p:=⟨b',o'+k*5+1,none⟩) (hS b' GL)]at Ny;have hd:=Zh (EO (f:=fun p:Int×Ax=>E0 p.2.low p.2.high p.1) (Na Az GQ));go_wp2;go_quiet (first|(go_at_call 134;refine Calls.quiet_of_same (X_ _ _ _ _)))
   all_goals go_wp2
   ·have q2:AD (nth l k) (Aj c.Aa k).low (Aj c.Aa k).high=true:=by assumption
    go_ret;exact⟨Bp (by rw[HE.out, ←hf.out,hd.out,Vz q2];rfl),Zan Bh _⟩
   ·have q2:AD (nth l k) (Aj c.Aa k).low (Aj c.Aa k).high=false:=by assumption
    go_roundg (l.length - (k+1))
    case rel=>exact⟨k+1,by omega,rfl,by go_num,by rw[←hf.out,hd.out,RZ q2];rfl,Zan Bh _,by simpa using kp⟩
    case measure=>omega
  ·have Q2:=Zh (show Cj c l=0 by rw[HE.out, ←hf.out];exact FJ (by have:=HZ.out;omega))
   clear hf;go_wp2;go_ret;exact⟨Bp Q2.out.symm,Bh⟩
def hasB (s i:Nat):Bool:=s.testBit i
def IV (s i:Nat):Nat:=s|||(1<<<i)
theorem yI (s i:Nat)(hs:s<8)(hi:i<3)(w:Zb):Calls Lp 122 #[.int .u8 s,.int .i64 i] w fun e w'=>e=.returned (.bool (hasB s i))∧w'=w:=by
 have h1:s=0∨s=1∨s=2∨s=3∨s=4∨s=5∨s=6∨s=7:=by omega
 have h2:i=0∨i=1∨i=2:=by omega
 rcases h1 with rfl|rfl|rfl|rfl|rfl|rfl|rfl|rfl<;>rcases h2 with rfl|rfl|rfl
 all_goals
  go_enter Lp.func122,al4;go_wp2;go_ret;exact⟨rfl,rfl⟩
theorem yJ (s i:Nat)(hs:s<8)(hi:i<3)(w:Zb):Calls Lp 123 #[.int .u8 s,.int .i64 i] w fun e w'=>e=.returned (.int .u8 (IV s i))∧w'=w:=by
 have h1:s=0∨s=1∨s=2∨s=3∨s=4∨s=5∨s=6∨s=7:=by omega
 have h2:i=0∨i=1∨i=2:=by omega
 rcases h1 with rfl|rfl|rfl|rfl|rfl|rfl|rfl|rfl<;>rcases h2 with rfl|rfl|rfl
 all_goals
  go_enter Lp.func123,al5;go_wp2;go_ret;exact⟨rfl,rfl⟩
section
variable {α:Type}
def CP (f:Nat→α→Int):Nat→List α→Int
 |_,[]=>0
 |i,x::r=>if f i x=0 then CP f (i+1) r else f i x
theorem Kv {f:Nat→α→Int}{l:List α}{k:Nat}{x:α}(h:l[k]?=some x):CP f k (l.drop k)=if f k x=0 then CP f (k+1) (l.drop (k+1)) else f k x:=by
 obtain⟨hk,rfl⟩:=Zo.1 h;rw[Z4 hk]
 rfl
theorem Mf {f:Nat→α→Int}{l:List α}{i k:Nat}(h:l.length≤k):CP f i (l.drop k)=0:=by
 rw[zf.2 h];rfl
end
def EP (E4:Nat)(l:List (Int×Int))(i:Nat)(p:Int×Int):Int:=
 if AD p.1 0 ((E4:Int) - 1)=true then 3 else if p.2=0∨AD p.2 (-4) 4=true then 1 else if 0<i∧p.1=(B1 l 0).1 then 4 else 0
def D6 (Aa:Nat)(number:Nat)(l:List Int)(i:Nat)(o:Int):Int:=
 if AD o 0 ((Aa:Int) - 1)=true∨o=number then 3 else if 0<i∧o≤nth l (i - 1) then 5 else 0
def Ev (c:Aw)(n:Nat):Int:=
 PE (CK ((Aj c.Aa n).low,(Aj c.Aa n).high) (-2) 2) (PE (C_ (Aj c.Aa n).Ak.length 2) (PE (CP (EP c.base.length (Aj c.Aa n).Ak) 0 (Aj c.Aa n).Ak)
  (PE (CP (D6 c.Aa.length n (Aj c.Aa n).over) 0 (Aj c.Aa n).over) (E0 0 4 (Aj c.Aa n).left))))
theorem ca {w:Zb}{p:Addr}{v:Zc}(h:w.cell? p=some v)(o:Obj):(w.alloc o).cell? p=some v:=(World.cell?_alloc_lt _ _ _ (ZH w _ h)).trans h
theorem cn (w:Zb)(xs:Array Zc)(t:Zs){i:Nat}{v:Zc}(h:xs[i]?=some v):(w.alloc (.cells xs t)).cell? ⟨w.heap.size,i,none⟩=some v:=(World.cell?_alloc_at _ _ _ _ rfl).trans h
theorem jg {w w':Zb}{xs ys:Array Zc}{s t:Zs}(h:Zm ((w.alloc (.cells xs s)).alloc (.cells ys t)).heap.size ((w.alloc (.cells xs s)).alloc (.cells ys t)) w'):
  Zm w.heap.size w w'∧(∀i v,xs[i]?=some v→w'.cell? ⟨w.heap.size,i,none⟩=some v)∧(∀i v,ys[i]?=some v→w'.cell? ⟨w.heap.size+1,i,none⟩=some v):=by
 refine⟨(((Zi _ _).alloc (Zj _) _).alloc (by simp) _).trans (h.mono (by simp;omega)),fun i v hv=>?_,fun i v hv=>?_⟩
 ·rw[h.cell (p:=⟨w.heap.size,i,none⟩) (by simp;omega)]
  exact ca (cn w xs s hv) _
 ·rw[h.cell (p:=⟨w.heap.size+1,i,none⟩) (by simp)]
  have:=cn (w.alloc (.cells xs s)) ys t hv;rwa[ZG]at this
theorem alq {S:Nat→Prop}{w:Zb}{v1 v2 v3 v4 v5:Zc}{c:Aw}{n:Nat}(h:RC S w v1 v2 v3 v4 v5 c)(hn:n<c.Aa.length)(hS:∀b,S b→b<w.heap.size):Calls Lp 144 #[.agg #[v1,v2,v3,v4,v5],.int .i64 n] w fun e w'=>e=.returned (.int .i64 (Ev c n))∧Zm w.heap.size w w':=by
 obtain⟨a1,c1,rfl,l1,m1⟩:=h.base.val;obtain⟨a2,c2,rfl,l2,m2⟩:=h.Ag.val;obtain⟨a3,c3,rfl,l3,m3⟩:=h.hooks.val;obtain⟨a4,c4,rfl,l4,m4⟩:=h.Aa.val;obtain⟨a5,c5,rfl,l5,m5⟩:=h.now.val;have I3:=DN;obtain⟨b,o,s2,s3,rfl,hb,FB,PF,Ny,kt,ku,hp,ho⟩:=h.Aa.at_ hn;obtain⟨a6,c6,rfl,l6,m6⟩:=hp.val;obtain⟨a7,c7,rfl,l7,m7⟩:=ho.val;have fO:=hS b hb;obtain⟨s,hs⟩:∃s,s=Aj c.Aa n:=⟨_,rfl⟩;have hsE:Ev c n=PE (CK (s.low,s.high) (-2) 2) (PE (C_ s.Ak.length 2) (PE (CP (EP c.base.length s.Ak) 0 s.Ak) (PE (CP (D6 c.Aa.length n s.over) 0 s.over) (E0 0 4 s.left)))):=by rw[Ev,hs]
 have HE:=Zh hsE;rw[←hs]at FB PF Ny kt ku hp ho l6 l7;clear hs hsE;obtain⟨yK,nI,BQ,BW,R0⟩:=s;dsimp only at*;go_enter Lp.func144,alb;go_wp2_with (first|(go_at_call 100;refine(rW _ _ _).mono ?_;rintro e w' ⟨rfl,rfl⟩)|(go_at_call 151;refine(yH _ _ _ _ _).mono ?_;rintro e w' ⟨rfl,BA⟩;obtain⟨Dz,hf,hg⟩:=jg BA;have f0:=hf 0 (.slice a1 c.base.length c1) rfl;have f3:=hf 3 (.slice (some ⟨b,o,none⟩) c.Aa.length c4) rfl;have g2:=hg 2 (.slice a6 BQ.length c6) rfl;have g3:=hg 3 (.slice a7 BW.length c7) rfl;have g4:=hg 4 (.int .i64 R0) rfl;clear hf hg BA))
 ·have q1:(CK (yK,nI) (-2) 2 !=0)=true:=by assumption
  go_ret;exact⟨Bp (by rw[HE.out,Ku (Gd q1)]),Dz⟩
 ·have q1:(CK (yK,nI) (-2) 2 !=0)=false:=by assumption
  have q2:(C_ BQ.length 2 !=0)=true:=by assumption
  go_ret;exact⟨Bp (by rw[HE.out,BP (Fp q1),Ku (Gd q2)]),Dz⟩
 rename (CK _ _ _ !=0)=false=>q1
 rename (C_ _ _ !=0)=false=>q2
 have rX:=Zh (show Ev c n=PE (CP (EP c.base.length BQ) 0 BQ) (PE (CP (D6 c.Aa.length n BW) 0 BW) (E0 0 4 R0)) by rw[HE.out,BP (Fp q1),BP (Fp q2)]);have Q1:=Zh q1;have Q2:=Zh q2;clear q1 q2 HE FB PF Ny kt ku;have D1:=ZH w' _ g4;have Ru:w.heap.size+1<w'.heap.size:=D1;clear D1;go_loopg [36] BQ.length (fun g i wr=>∃k:Nat,k≤BQ.length∧g=BQ.length - k∧i=.int .i64 k∧CP (EP c.base.length BQ) k (BQ.drop k)=CP (EP c.base.length BQ) 0 BQ∧Zm w.heap.size w wr∧Zm w'.heap.size w' wr)
 case atStart=>exact⟨0,Zt _,rfl,rfl,rfl,Dz,Zi _ _⟩
 case round=>
  obtain⟨k,hk,rfl,rfl,CO,hB,hW⟩:=hrel;have hf:=Zh CO;clear CO;rw[←hW.cell (p:=⟨w.heap.size,0,none⟩) (by simp;omega)]at f0;rw[←hW.cell (p:=⟨w.heap.size,3,none⟩) (by simp;omega)]at f3;rw[←hW.cell (p:=⟨w.heap.size+1,2,none⟩) (by simp;omega)]at g2;rw[←hW.cell (p:=⟨w.heap.size+1,3,none⟩) (by simp;omega)]at g3;rw[←hW.cell (p:=⟨w.heap.size+1,4,none⟩) (by simp;omega)]at g4;by_cases Az:k<BQ.length
  ·obtain⟨b6,o6,rfl,bq,SM,Oh⟩:=hp.at_ Az
   obtain⟨b6',o6',e,_,Qa,_⟩:=hp.at_ (i:=0) (by omega);cases e;rw[←hB.cell (p:=⟨b6,o6+k*2,none⟩) (hS b6 bq)]at SM;rw[←hB.cell (p:=⟨b6,o6+k*2+1,none⟩) (hS b6 bq)]at Oh;rw[←hB.cell (p:=⟨b6,o6+0*2,none⟩) (hS b6 bq)]at Qa;have hd:=Zh (Kv (f:=EP c.base.length BQ) (D5 Az));have pG:=hB.size;have hWs:=hW.size;have Fg:w.heap.size<wr.heap.size:=by omega
   have El:w.heap.size+1<wr.heap.size:=by omega
   have EN:b6<wr.heap.size:=by have:=hS b6 bq;omega
   obtain⟨x,hx⟩:∃x,x=B1 BQ k:=⟨_,rfl⟩;rw[←hx]at SM Oh hd;have HX:=Zh hx;clear hx;obtain⟨xg,xb⟩:=x;dsimp only at SM Oh;go_wp2_with (go_at_call 134;refine(X_ _ _ _ _).mono ?_;rintro e w' ⟨rfl,rfl⟩)
   ·have q3:AD xg 0 ((c.base.length:Int) - 1)=true:=by assumption
    have e3:EP c.base.length BQ k (xg,xb)=3:=by unfold EP;rw[if_pos q3]
    go_ret;exact⟨Bp (by rw[rX.out, ←hf.out,hd.out,e3];rfl),hB.alloc (by omega) _⟩
   ·have q3:AD xg 0 ((c.base.length:Int) - 1)=false:=by assumption
    have q4:xb=0:=by assumption
    have e3:EP c.base.length BQ k (xg,xb)=1:=by unfold EP;rw[if_neg (by rw[q3];decide),if_pos (.inl q4)]
    go_ret;exact⟨Bp (by rw[rX.out, ←hf.out,hd.out,e3];rfl),hB.alloc (by omega) _⟩
   ·have q3:AD xg 0 ((c.base.length:Int) - 1)=false:=by assumption
    have q4:(xb==0)=true∨AD xb (-4) 4=true:=by assumption
    have e3:EP c.base.length BQ k (xg,xb)=1:=by unfold EP;rw[if_neg (by rw[q3];decide),if_pos (by simpa using q4)]
    go_ret;exact⟨Bp (by rw[rX.out, ←hf.out,hd.out,e3];rfl),hB.alloc (by omega) _⟩
   rename AD xg 0 _=false=>q3
   rename ((xb==0)=false∧_)=>q4
   have e3:EP c.base.length BQ k (xg,xb)=if 0<k∧xg=(B1 BQ 0).1 then 4 else 0:=by unfold EP;rw[if_neg (by rw[q3];decide),if_neg (by simpa using q4)]
   have E3:=Zh e3;have Q3:=Zh q3;have Q4:=Zh q4;clear e3 q3 q4
   rename¬xb=0=>q5
   clear q5;rw[Nat.zero_mul,Nat.add_zero]at Qa;have kz:∀nq,Zm w.heap.size w ((wr.alloc (.cells #[.int .i64 xg,.int .i64 xb] 64)).drewN nq):=fun nq=>Zan (hB.alloc (by omega) _) _;have hWn:∀nq,Zm w'.heap.size w' ((wr.alloc (.cells #[.int .i64 xg,.int .i64 xb] 64)).drewN nq):=fun nq=>Zan (hW.alloc hWs _) _;by_cases kA:0<k
   ·go_quiet (fail)
    go_wp2
    ·have q6:(xg==(B1 BQ 0).1)=true:=by assumption
     go_ret;have e4:EP c.base.length BQ k (xg,xb)=4:=by rw[E3.out,if_pos ⟨kA,by simpa using q6⟩]
     exact⟨Bp (by rw[rX.out, ←hf.out,hd.out,e4];rfl),kz _⟩
    ·have q6:(xg==(B1 BQ 0).1)=false:=by assumption
     have e4:EP c.base.length BQ k (xg,xb)=0:=by rw[E3.out,if_neg (fun x=>by simp at q6;exact q6 x.2)]
     go_roundg (BQ.length - (k+1))
     case rel=>exact⟨k+1,by omega,rfl,by go_num,by rw[←hf.out,hd.out,e4];rfl,kz _,hWn _⟩
     case measure=>omega
   ·go_quiet (fail)
    go_wp2;have e4:EP c.base.length BQ k (xg,xb)=0:=by rw[E3.out,if_neg (fun x=>kA x.1)]
    go_roundg (BQ.length - (k+1))
    case rel=>exact⟨k+1,by omega,rfl,by go_num,by rw[←hf.out,hd.out,e4];rfl,kz _,hWn _⟩
    case measure=>omega
  ·have Q3:=Zh (show CP (EP c.base.length BQ) 0 BQ=0 by rw[←hf.out];exact Mf (by omega))
   have vk:=Zh (show Ev c n=PE (CP (D6 c.Aa.length n BW) 0 BW) (E0 0 4 R0) by rw[rX.out,BP Q3.out]);have hWs:=hW.size;have El:w.heap.size+1<wr.heap.size:=by omega
   clear hf rX f0 g2 hW hWs Ru;go_wp2;go_loopg [75] BW.length (fun g i wx=>∃k:Nat,k≤BW.length∧g=BW.length - k∧i=.int .i64 k∧CP (D6 c.Aa.length n BW) k (BW.drop k)=CP (D6 c.Aa.length n BW) 0 BW∧wx=wr)
   case atStart=>exact⟨0,Zt _,rfl,rfl,rfl,rfl⟩
   case round=>
    obtain⟨k,hk,rfl,rfl,CO,rfl⟩:=hrel;have hf:=Zh CO;clear CO;by_cases Az:k<BW.length
    ·obtain⟨b7,o7,rfl,Wi,SM⟩:=ho.at_ Az
     rw[←hB.cell (p:=⟨b7,o7+k,none⟩) (hS b7 Wi)]at SM;have Qa:0<k→wr.cell? ⟨b7,o7+(k - 1),none⟩=some (.int .i64 (nth BW (k - 1))):=fun h0=>by
      obtain⟨b7',o7',e,_,hc⟩:=ho.at_ (i:=k - 1) (by omega);cases e;rw[←hB.cell (p:=⟨b7,o7+(k - 1),none⟩) (hS b7 Wi)]at hc;exact hc
     have hd:=Zh (Kv (f:=D6 c.Aa.length n BW) (Bo Az));obtain⟨x,hx⟩:∃x,x=nth BW k:=⟨_,rfl⟩;rw[←hx]at SM hd;have HX:=Zh hx;clear hx;by_cases kA:0<k
     ·have Qa:=Qa kA
      go_wp2_with (go_at_call 134;refine(X_ _ _ _ _).mono ?_;rintro e w' ⟨rfl,rfl⟩)
      ·have q3:AD x 0 ((c.Aa.length:Int) - 1)=true:=by assumption
       have e3:D6 c.Aa.length n BW k x=3:=by unfold D6;rw[if_pos (.inl q3)]
       go_ret;exact⟨Bp (by rw[vk.out, ←hf.out,hd.out,e3];rfl),hB⟩
      ·have q3:(x==(n:Int))=true:=by assumption
       have e3:D6 c.Aa.length n BW k x=3:=by unfold D6;rw[if_pos (.inr (by simpa using q3))]
       go_ret;exact⟨Bp (by rw[vk.out, ←hf.out,hd.out,e3];rfl),hB⟩
      ·have q3:¬AD x 0 ((c.Aa.length:Int) - 1)=true:=by assumption
       have q4:(x==(n:Int))=false:=by assumption
       have q5:x≤nth BW (k - 1):=by assumption
       have e3:D6 c.Aa.length n BW k x=5:=by unfold D6;rw[if_neg (fun y=>y.elim q3 (by simpa using q4)),if_pos ⟨kA,q5⟩]
       go_ret;exact⟨Bp (by rw[vk.out, ←hf.out,hd.out,e3];rfl),hB⟩
      ·have q3:¬AD x 0 ((c.Aa.length:Int) - 1)=true:=by assumption
       have q4:(x==(n:Int))=false:=by assumption
       have q5:nth BW (k - 1)<x:=by assumption
       have e3:D6 c.Aa.length n BW k x=0:=by unfold D6;rw[if_neg (fun y=>y.elim q3 (by simpa using q4)),if_neg (fun y=>by have:=y.2;omega)]
       go_roundg (BW.length - (k+1))
       case rel=>exact⟨k+1,by omega,rfl,by go_num,by rw[←hf.out,hd.out,e3];rfl,rfl⟩
       case measure=>omega
     ·clear Qa
      go_wp2_with (go_at_call 134;refine(X_ _ _ _ _).mono ?_;rintro e w' ⟨rfl,rfl⟩)
      ·have q3:AD x 0 ((c.Aa.length:Int) - 1)=true:=by assumption
       have e3:D6 c.Aa.length n BW k x=3:=by unfold D6;rw[if_pos (.inl q3)]
       go_ret;exact⟨Bp (by rw[vk.out, ←hf.out,hd.out,e3];rfl),hB⟩
      ·have q3:(x==(n:Int))=true:=by assumption
       have e3:D6 c.Aa.length n BW k x=3:=by unfold D6;rw[if_pos (.inr (by simpa using q3))]
       go_ret;exact⟨Bp (by rw[vk.out, ←hf.out,hd.out,e3];rfl),hB⟩
      ·have q3:¬AD x 0 ((c.Aa.length:Int) - 1)=true:=by assumption
       have q4:(x==(n:Int))=false:=by assumption
       have e3:D6 c.Aa.length n BW k x=0:=by unfold D6;rw[if_neg (fun y=>y.elim q3 (by simpa using q4)),if_neg (fun y=>kA y.1)]
       go_roundg (BW.length - (k+1))
       case rel=>exact⟨k+1,by omega,rfl,by go_num,by rw[←hf.out,hd.out,e3];rfl,rfl⟩
       case measure=>omega
    ·have HE4:=Zh (show Ev c n=E0 0 4 R0 by rw[vk.out,BP (by rw[←hf.out];exact Mf (by omega))])
     clear hf;go_wp2_with (go_at_call 134;refine(X_ _ _ _ _).mono ?_;rintro e w' ⟨rfl,rfl⟩)
     ·have q3:AD R0 0 4=true:=by assumption
      go_ret;exact⟨Bp (by rw[HE4.out,Vz q3]),hB⟩
     ·have q3:AD R0 0 4=false:=by assumption
      go_ret;exact⟨Bp (by rw[HE4.out,RZ q3]),hB⟩
def Qc (ab:Nat→Nat)(i o:Nat):Nat→Nat:=fun j=>if j=i then ab i|||IV (ab o) o else ab j
def Ih (ab:Nat→Nat)(i:Nat):List Int→Nat→Nat
 | []=>ab
 |o::r=>Ih (Qc ab i o.toNat) i r
def Kw (ab:Nat→Nat)(i:Nat):List Ax→Nat→Nat
 | []=>ab
 |s::r=>Kw (Ih ab i s.over) (i+1) r
def GR (ab:Nat→Nat)(l:List Ax):Nat→Nat→Nat
 |0=>ab
 |n+1=>GR (Kw ab 0 l) l n
def Ay (l:List Ax):Nat→Nat:=GR (fun _=>0) l l.length
theorem X' {ab:Nat→Nat}{i k:Nat}{l:List Int}(h:k<l.length):Ih ab i (l.drop k)=Ih (Qc ab i (nth l k).toNat) i (l.drop (k+1)):=by
 have:=Bo h;obtain⟨hk,e⟩:=Zo.1 this;rw[Z4 hk,e]
 rfl
theorem ae {ab:Nat→Nat}{i k:Nat}{l:List Ax}(h:k<l.length):Kw ab i (l.drop k)=Kw (Ih ab i (Aj l k).over) (i+1) (l.drop (k+1)):=by
 have:=Dk h;obtain⟨hk,e⟩:=Zo.1 this;rw[Z4 hk,e]
 rfl
structure Jl (l:List Ax):Prop where
 few:l.length≤3
 over:∀i,i<l.length→∀k,k<(Aj l i).over.length→0≤nth (Aj l i).over k∧nth (Aj l i).over k<l.length
theorem ch {w:Zb}{b i:Nat}{cs:Array Zc}{t:Zs}{f:Nat×Nat}{v:Zc}(h:w.heap[b]?=some (.cells cs t f))(hv:cs[i]?=some v):w.cell? ⟨b,i,none⟩=some v:=by
 unfold zJ;rw[h];exact hv
theorem cf {w:Zb}{b i:Nat}{cs:Array Zc}{t:Zs}(h:w.heap[b]?=some (.cells cs t (0,0))):w.frozen? ⟨b,i,none⟩=false:=by
 unfold Yu;rw[h];simp
theorem A5 {w:Zb}{b i:Nat}{cs:Array Zc}{t:Zs}{f:Nat×Nat}(h:w.heap[b]?=some (.cells cs t f))(v:Zc):(w.setCell ⟨b,i,none⟩ v).heap[b]?=some (.cells (cs.setIfInBounds i v) t f):=by
 unfold Z1;simp only[Zag,if_pos];rw[h];rfl
theorem AW {w:Zb}{b c i:Nat}(h:c≠b)(v:Zc):(w.setCell ⟨b,i,none⟩ v).heap[c]?=w.heap[c]? :=Y9 _ _ _ _ h
theorem Bv (w:Zb)(o:Obj):(w.alloc o).heap[w.heap.size]?=some o:=by
 show(w.heap.push o)[w.heap.size]?=_;simp
theorem Bm {w:Zb}{b:Nat}{x:Obj}(h:w.heap[b]?=some x)(o:Obj):(w.alloc o).heap[b]?=some x:=(zx w o b (Za.1 h).1).trans h
theorem IW {s i:Nat}(hs:s<8)(hi:i<3):IV s i<8:=by
 have h1:s=0∨s=1∨s=2∨s=3∨s=4∨s=5∨s=6∨s=7:=by omega
 have h2:i=0∨i=1∨i=2:=by omega
 rcases h1 with rfl|rfl|rfl|rfl|rfl|rfl|rfl|rfl<;>rcases h2 with rfl|rfl|rfl<;>decide
theorem df {a b:Nat}(ha:a<8)(hb:b<8):a|||b<8:=Nat.or_lt_two_pow (n:=3) ha hb
theorem rY {ab:Nat→Nat}{i o:Nat}(h:∀j,j<3→ab j<8)(hi:i<3)(ho:o<3):∀j,j<3→Qc ab i o j<8:=by
 intro j hj;unfold Qc;split
 ·exact df (h i hi) (IW (h o ho) ho)
 ·exact h j hj
theorem ag {a b:Nat}(ha:a<8)(hb:b<8):bits BinOp.or IntKind.u8 (a:Int) (b:Int)=((a|||b:Nat):Int):=by
 have h1:a=0∨a=1∨a=2∨a=3∨a=4∨a=5∨a=6∨a=7:=by omega
 have h2:b=0∨b=1∨b=2∨b=3∨b=4∨b=5∨b=6∨b=7:=by omega
 rcases h1 with rfl|rfl|rfl|rfl|rfl|rfl|rfl|rfl<;>rcases h2 with rfl|rfl|rfl|rfl|rfl|rfl|rfl|rfl<;>rfl
def Ba (x1 x2 x3 x4 x5:Zc)(ab:Nat→Nat):Array Zc:= #[x1,x2,x3,x4,x5,.int .u8 (ab 0),.int .u8 (ab 1),.int .u8 (ab 2)]
theorem Hh {x1 x2 x3 x4 x5:Zc}{ab:Nat→Nat}{i:Nat}(h:i<3):(Ba x1 x2 x3 x4 x5 ab)[5+i]?=some (.int .u8 (ab i)):=by
 have:i=0∨i=1∨i=2:=by omega
 rcases this with rfl|rfl|rfl<;>rfl
theorem dg {x1 x2 x3 x4 x5:Zc}{ab:Nat→Nat}{i o:Nat}(h:i<3):(Ba x1 x2 x3 x4 x5 ab).setIfInBounds (5+i) (.int .u8 ((ab i|||IV (ab o) o:Nat):Int))=Ba x1 x2 x3 x4 x5 (Qc ab i o):=by
 have:i=0∨i=1∨i=2:=by omega
 rcases this with rfl|rfl|rfl<;>simp[Ba,Qc]
def ah:Array Zc:= #[.slice none 0 0,.slice none 0 0,.slice none 0 0,.slice none 0 0,.slice none 0 0,.int .u8 0,.int .u8 0,.int .u8 0]
structure GW (w:Zb)(x1 x2 x3 x4 x5:Zc)(ab:Nat→Nat)(wr:Zb):Prop where
 below:Zm w.heap.size w wr
 res:wr.heap[w.heap.size+1]?=some (.cells ah 112 (0,0))
 D7:wr.heap[w.heap.size+1+1]?=some (.cells (Ba x1 x2 x3 x4 x5 ab) 112 (0,0))
 lt:∀j,j<3→ab j<8
theorem GW.set {w wr:Zb}{x1 x2 x3 x4 x5:Zc}{ab:Nat→Nat}{i o:Nat}(h:GW w x1 x2 x3 x4 x5 ab wr)(hi:i<3)(ho:o<3):GW w x1 x2 x3 x4 x5 (Qc ab i o) (wr.setCell ⟨w.heap.size+1+1,5+i,none⟩ (.int .u8 ((ab i|||IV (ab o) o:Nat):Int))):=
 ⟨h.below.setCell (p:=⟨w.heap.size+1+1,5+i,none⟩) (by show w.heap.size≤w.heap.size+1+1;omega) _,(AW (by omega) _).trans h.res,by rw[←dg hi];exact A5 h.D7 _,rY h.lt hi ho⟩
theorem GW.drew {w wr:Zb}{x1 x2 x3 x4 x5:Zc}{ab:Nat→Nat}(h:GW w x1 x2 x3 x4 x5 ab wr):GW w x1 x2 x3 x4 x5 ab wr.drew:=⟨h.below.drew,h.res,h.D7,h.lt⟩
theorem R3 {w wr:Zb}(h:Zm w.heap.size w wr)(y0 y1 y2 y3 y4 y5 y6 y7:Zc):Zm w.heap.size w ((((((((wr.setCell ⟨w.heap.size+1,0,none⟩ y0).setCell ⟨w.heap.size+1,1,none⟩ y1).setCell ⟨w.heap.size+1,2,none⟩ y2).setCell ⟨w.heap.size+1,3,none⟩ y3).setCell ⟨w.heap.size+1,4,none⟩ y4).setCell ⟨w.heap.size+1,5,none⟩ y5).setCell ⟨w.heap.size+1,6,none⟩ y6).setCell ⟨w.heap.size+1,7,none⟩ y7):=by
 have h1:w.heap.size≤w.heap.size+1:=by omega
 exact((((((((h.setCell (p:=⟨_,0,none⟩) h1 _).setCell (p:=⟨_,1,none⟩) h1 _).setCell (p:=⟨_,2,none⟩) h1 _).setCell (p:=⟨_,3,none⟩) h1 _).setCell (p:=⟨_,4,none⟩) h1 _).setCell (p:=⟨_,5,none⟩) h1 _).setCell (p:=⟨_,6,none⟩) h1 _).setCell (p:=⟨_,7,none⟩) h1 _)
theorem jh {n k:Nat}{p:Nat→Bool}(hk:k<n)(h:p k=false):(ZaB n).all p=false:=by
 rw[List.all_eq_false];exact⟨k,List.mem_range.2 hk,by simp[h]⟩
theorem als {S:Nat→Prop}{w:Zb}{v1 v2 v3 v4 v5:Zc}{c:Aw}(h:RC S w v1 v2 v3 v4 v5 c)(I4:Jl c.Aa)(hS:∀b,S b→b<w.heap.size):
  Calls Lp 145 #[.agg #[v1,v2,v3,v4,v5]] w fun e w'=>e=.returned (.tuple #[.agg #[v1,v2,v3,v4,v5,.int .u8 (Ay c.Aa 0),.int .u8 (Ay c.Aa 1),.int .u8 (Ay c.Aa 2)],.bool ((ZaB c.Aa.length).all fun i=> !hasB (Ay c.Aa i) i)])∧Zm w.heap.size w w':=by
 obtain⟨a1,c1,rfl,l1,m1⟩:=h.base.val;obtain⟨a2,c2,rfl,l2,m2⟩:=h.Ag.val;obtain⟨a3,c3,rfl,l3,m3⟩:=h.hooks.val;obtain⟨a4,c4,rfl,l4,m4⟩:=h.Aa.val;obtain⟨a5,c5,rfl,l5,m5⟩:=h.now.val;have I3:=DN;have Jm:=I4.few;have HE:=Zh (show Ay c.Aa=GR (fun _=>0) c.Aa c.Aa.length from rfl);go_enter Lp.func145,alc;go_wp2;go_loopg [16] c.Aa.length (fun g i wr=>∃(r:Nat) (ab:Nat→Nat),r≤c.Aa.length∧g=c.Aa.length - r∧i=.int .i64 r∧GR ab c.Aa (c.Aa.length - r)=GR (fun _=>0) c.Aa c.Aa.length∧GW w (.slice a1 c.base.length c1) (.slice a2 c.Ag.length c2) (.slice a3 c.hooks.length c3) (.slice a4 c.Aa.length c4) (.slice a5 c.now.length c5) ab wr)
 case atStart=>exact⟨0,fun _=>0,Zt _,rfl,rfl,rfl,(((Zi _ _).alloc (Zj _) _).alloc (by simp) _).alloc (by simp;omega) _,Bm (by have:=Bv (w.alloc (.cells #[.slice a1 c.base.length c1,.slice a2 c.Ag.length c2,.slice a3 c.hooks.length c3,.slice a4 c.Aa.length c4,.slice a5 c.now.length c5] 26)) (.cells ah 112 (0,0));rwa[ZG]at this) _,by have:=Bv ((w.alloc (.cells #[.slice a1 c.base.length c1,.slice a2 c.Ag.length c2,.slice a3 c.hooks.length c3,.slice a4 c.Aa.length c4,.slice a5 c.now.length c5] 26)).alloc (.cells ah 112 (0,0))) (.cells (Ba (.slice a1 c.base.length c1) (.slice a2 c.Ag.length c2) (.slice a3 c.hooks.length c3) (.slice a4 c.Aa.length c4) (.slice a5 c.now.length c5) (fun _=>0)) 112 (0,0));rwa[ZG,ZG]at this,fun _ _=>by decide⟩
 case round=>
  obtain⟨r,ab,hr,rfl,rfl,CO,hG⟩:=hrel;have hf:=Zh CO;clear CO;by_cases Az:r<c.Aa.length
  ·have g3:=ch (i:=3) hG.D7 (v:=.slice a4 c.Aa.length c4) rfl
   go_wp2;go_loopg [22] c.Aa.length (fun g i wr=>∃(k:Nat) (ab:Nat→Nat),k≤c.Aa.length∧g=c.Aa.length - k∧i=.int .i64 k∧GR (Kw ab k (c.Aa.drop k)) c.Aa (c.Aa.length - (r+1))=GR (fun _=>0) c.Aa c.Aa.length∧GW w (.slice a1 c.base.length c1) (.slice a2 c.Ag.length c2) (.slice a3 c.hooks.length c3) (.slice a4 c.Aa.length c4) (.slice a5 c.now.length c5) ab wr)
   case atStart=>exact⟨0,ab,Zt _,rfl,rfl,by rw[←hf.out,show c.Aa.length - r=(c.Aa.length - (r+1))+1 by omega];rfl,hG⟩
   case round=>
    obtain⟨k,yL,hk,rfl,rfl,CO,Ta⟩:=hrel;have Lf:=Zh CO;clear CO;by_cases GQ:k<c.Aa.length
    ·obtain⟨b,o,s2,s3,rfl,hb,FB,PF,Ny,kt,ku,hp,ho⟩:=h.Aa.at_ (i:=k) GQ
     obtain⟨a6,c6,rfl,l6,m6⟩:=hp.val;obtain⟨a7,c7,rfl,l7,m7⟩:=ho.val;have kB:=I4.over k GQ;rw[←Ta.below.cell (p:=⟨b,o+k*5,none⟩) (hS b hb)]at FB;rw[←Ta.below.cell (p:=⟨b,o+k*5+1,none⟩) (hS b hb)]at PF;rw[←Ta.below.cell (p:=⟨b,o+k*5+2,none⟩) (hS b hb)]at Ny;rw[←Ta.below.cell (p:=⟨b,o+k*5+3,none⟩) (hS b hb)]at kt;rw[←Ta.below.cell (p:=⟨b,o+k*5+4,none⟩) (hS b hb)]at ku;obtain⟨s,hs⟩:∃s,s=Aj c.Aa k:=⟨_,rfl⟩;have J9:=Zh (ae (ab:=yL) (i:=k) (l:=c.Aa) (k:=k) GQ);rw[←hs]at FB PF Ny kt ku hp ho kB l6 l7 J9;clear hs;obtain⟨yK,nI,BQ,BW,R0⟩:=s;dsimp only at*;have hwl:=Ta.below.size;have Fg:w.heap.size+1<wr.heap.size:=(Za.1 Ta.res).1;have El:w.heap.size+1+1<wr.heap.size:=(Za.1 Ta.D7).1;go_wp2;go_loopg [30] BW.length (fun g i wx=>∃(m:Nat) (ab:Nat→Nat),m≤BW.length∧g=BW.length - m∧i=.int .i64 m∧Ih ab k (BW.drop m)=Ih yL k BW∧GW w (.slice a1 c.base.length c1) (.slice a2 c.Ag.length c2) (.slice a3 c.hooks.length c3) (.slice (some ⟨b,o,none⟩) c.Aa.length c4) (.slice a5 c.now.length c5) ab wx)
     case atStart=>exact⟨0,yL,Zt _,rfl,rfl,rfl,Ta.below.alloc hwl _,Bm Ta.res _,Bm Ta.D7 _,Ta.lt⟩
     case round=>
      obtain⟨m,ab3,hm,rfl,rfl,CO,pM⟩:=hrel;have bt:=Zh CO;clear CO;by_cases dh:m<BW.length
      ·obtain⟨b7,o7,rfl,Wi,SM⟩:=ho.at_ dh
       rw[←pM.below.cell (p:=⟨b7,o7+m,none⟩) (hS b7 Wi)]at SM;have hod:=Zh (X' (ab:=ab3) (i:=k) dh);obtain⟨mY,xv⟩:=kB m dh;obtain⟨x,hx⟩:∃x:Nat,nth BW m=x:=⟨(nth BW m).toNat,by omega⟩;rw[hx]at SM mY xv hod;have HX:=Zh hx;clear hx FB PF Ny kt ku;have bu:x<3:=by omega
       have M_:k<3:=by omega
       have gk:=ch pM.D7 (Hh M_);have gx:=ch pM.D7 (Hh bu);have gf:=cf (i:=5+k) pM.D7;have hlx:=pM.lt x bu;have hlk:=pM.lt k M_;have Lz:=fun w=>yJ (ab3 x) x hlx bu w;have Tb:(k:Int)<3:=by omega
       have hxi:(x:Int)<3:=by omega
       go_wp2;go_still_tail 13,(by kernel_rfl)
       still_call (Lz _)
       repeat still_step
       refine wpStill_nil ?_;change wpList _ _ _ _ _ wr.drew;rw[ag hlk (IW hlx bu)];go_wp2;go_roundg (BW.length - (m+1))
       case rel=>exact⟨m+1,Qc ab3 k x,by omega,rfl,by go_num,by rw[←bt.out,hod.out];rfl,(pM.set M_ bu).drew⟩
       case measure=>omega
      ·have e3:Ih yL k BW=ab3:=by rw[←bt.out,zf.2 (by omega)];rfl
       go_wp2;go_roundg (c.Aa.length - (k+1))
       case rel=>exact⟨k+1,ab3,by omega,rfl,by go_num,by rw[←Lf.out,J9.out,e3],pM⟩
       case measure=>omega
    ·have e2:Kw yL k (c.Aa.drop k)=yL:=by rw[zf.2 (by omega)];rfl
     have E2:=Zh e2;clear e2;go_wp2;go_roundg (c.Aa.length - (r+1))
     case rel=>exact⟨r+1,yL,by omega,rfl,by go_num,by rw[←Lf.out,E2.out],Ta⟩
     case measure=>omega
  ·have e1:Ay c.Aa=ab:=by
    rw[HE.out, ←hf.out,show c.Aa.length - r=0 by omega];rfl
   have E1:=Zh e1;clear e1 hf;have g3:=ch (i:=3) hG.D7 (v:=.slice a4 c.Aa.length c4) rfl;go_wp2;go_loopg [54] c.Aa.length (fun g i wx=>∃k:Nat,k≤c.Aa.length∧g=c.Aa.length - k∧i=.int .i64 k∧(∀j,j<k→hasB (ab j) j=false)∧wx=wr)
   case atStart=>exact⟨0,Zt _,rfl,rfl,fun _ h=>absurd h (Zal _),rfl⟩
   case round=>
    obtain⟨k,hk,rfl,rfl,CO,rfl⟩:=hrel;have hf:=Zh CO;clear CO;have g0:=ch (i:=0) hG.D7 (v:=.slice a1 c.base.length c1) rfl;have g1:=ch (i:=1) hG.D7 (v:=.slice a2 c.Ag.length c2) rfl;have g2:=ch (i:=2) hG.D7 (v:=.slice a3 c.hooks.length c3) rfl;have g4:=ch (i:=4) hG.D7 (v:=.slice a5 c.now.length c5) rfl;have g5:=ch (i:=5) hG.D7 (v:=.int .u8 (ab 0)) rfl;have g6:=ch (i:=6) hG.D7 (v:=.int .u8 (ab 1)) rfl;have g7:=ch (i:=7) hG.D7 (v:=.int .u8 (ab 2)) rfl;have r0:=cf (i:=0) hG.res;have r1:=cf (i:=1) hG.res;have r2:=cf (i:=2) hG.res;have r3:=cf (i:=3) hG.res;have r4:=cf (i:=4) hG.res;have r5:=cf (i:=5) hG.res;have r6:=cf (i:=6) hG.res;have r7:=cf (i:=7) hG.res;have s0:=ch (i:=0) hG.res (v:=.slice none 0 0) rfl;have s1:=ch (i:=1) hG.res (v:=.slice none 0 0) rfl;have s2:=ch (i:=2) hG.res (v:=.slice none 0 0) rfl;have s3:=ch (i:=3) hG.res (v:=.slice none 0 0) rfl;have s4:=ch (i:=4) hG.res (v:=.slice none 0 0) rfl;have s5:=ch (i:=5) hG.res (v:=.int .u8 0) rfl;have s6:=ch (i:=6) hG.res (v:=.int .u8 0) rfl;have s7:=ch (i:=7) hG.res (v:=.int .u8 0) rfl;by_cases GQ:k<c.Aa.length
    ·have M_:k<3:=by omega
     have gk:=ch hG.D7 (Hh M_);have Tb:(k:Int)<3:=by omega
     have Lz:=fun w=>yI (ab k) k (hG.lt k M_) M_ w;go_wp2_with (go_at_call 122;refine(Lz _).mono ?_;rintro e w' ⟨rfl,rfl⟩)
     ·have q1:hasB (ab k) k=true:=by assumption
      refine ZX (v:=.tuple #[.agg (Ba (.slice a1 c.base.length c1) (.slice a2 c.Ag.length c2) (.slice a3 c.hooks.length c3) (.slice a4 c.Aa.length c4) (.slice a5 c.now.length c5) ab),.bool false]) ?_ rfl ?_
      ·rw[Yp rfl]
       go_simp
       rfl
      ·refine⟨?_,?_⟩
       ·rw[E1.out,jh (k:=k) GQ (by rw[q1];rfl)];rfl
       ·exact R3 hG.below _ _ _ _ _ _ _ _
     ·have q1:hasB (ab k) k=false:=by assumption
      go_roundg (c.Aa.length - (k+1))
      case rel=>exact⟨k+1,by omega,rfl,by go_num,fun j hj=>by
       by_cases h:j=k
       ·rw[h];exact q1
       ·exact hf.out j (by omega),rfl⟩
      case measure=>omega
    ·have q2:((ZaB c.Aa.length).all fun i=> !hasB (ab i) i)=true:=by
      rw[List.all_eq_true];intro j hj;rw[hf.out j (by have:=List.mem_range.1 hj;omega)];rfl
     have Q2:=Zh q2;clear q2;go_wp2;refine ZX (v:=.tuple #[.agg (Ba (.slice a1 c.base.length c1) (.slice a2 c.Ag.length c2) (.slice a3 c.hooks.length c3) (.slice a4 c.Aa.length c4) (.slice a5 c.now.length c5) ab),.bool true]) ?_ rfl ?_
     ·rw[Yp rfl]
      go_simp
      rfl
     ·refine⟨?_,?_⟩
      ·rw[E1.out,Q2.out];rfl
      ·exact R3 hG.below _ _ _ _ _ _ _ _
def Jn (c:Aw):Int:=CP (fun i _=>Ev c i) 0 c.Aa
def Hj (l:List Ax):Bool:=(ZaB l.length).all fun i=> !hasB (Ay l i) i
def BR (c:Aw):Int:=PE (De c) (PE (C_ c.Aa.length 3) (PE (Jn c) (if Hj c.Aa=true then Cj c c.now else 9)))
theorem Ge {α:Type}{f:Nat→α→Int}:∀ {l:List α} {i:Nat},CP f i l=0→∀k x,l[k]?=some x→f (i+k) x=0
 | [],_,_,k,x,h=>by simp at h
 |y::r,i,h0,k,x,h=>by
  unfold CP at h0;split at h0
  ·next hy=>
   cases k with
   |zero=>simp at h;subst h;exact hy
   |succ k=>
    have:=Ge h0 k x (by simpa using h);rwa[show i+1+k=i+(k+1) by omega]at this
  ·next hy=>exact absurd h0 hy
theorem Jo {n most:Int}(h:C_ n most=0):n≠0∧n≤most:=by
 unfold C_ at h;split at h
 ·cases h
 ·next h1=>
  split at h
  ·cases h
  ·next h2=>exact⟨h1,by omega⟩
theorem GZ {n lo hi:Int}(h:AD n lo hi=false):lo≤n∧n≤hi:=by
 unfold AD at h;simp at h;exact h
theorem Bc {a b:Int}(h:PE a b=0):a=0∧b=0:=by
 unfold PE at h;split at h
 ·next h1=>exact⟨h1,h⟩
 ·next h1=>exact absurd h h1
theorem rZ {c:Aw}{n:Nat}(h:Ev c n=0){k:Nat}(hk:k<(Aj c.Aa n).over.length):0≤nth (Aj c.Aa n).over k∧nth (Aj c.Aa n).over k<c.Aa.length:=by
 have h1:=(Bc (Bc (Bc (Bc h).2).2).2).1;have h2:=Ge h1 k _ (Bo hk);unfold D6 at h2;split at h2
 ·cases h2
 ·next h3=>
  have h4:AD (nth (Aj c.Aa n).over k) 0 ((c.Aa.length:Int) - 1)=false:=by
   cases e:AD (nth (Aj c.Aa n).over k) 0 ((c.Aa.length:Int) - 1)
   ·rfl
   ·exact absurd (.inl e) h3
  have:=GZ h4;omega
theorem R4 {c:Aw}(h1:C_ c.Aa.length 3=0)(h2:Jn c=0):Jl c.Aa:=
 ⟨by have:=(Jo h1).2;omega,fun i hi k hk=>rZ (Ge h2 i _ (Dk hi)|>fun h=>by simpa using h) hk⟩
theorem ai {w w':Zb}{o1 o2:Obj}(h:Zm ((w.alloc o1).alloc o2).heap.size ((w.alloc o1).alloc o2) w'):w.heap.size<w'.heap.size∧w.heap.size+1<w'.heap.size:=by
 have:=h.size;rw[ZG,ZG]at this;omega
theorem bA {w w':Zb}{o:Obj}(h:Zm w.heap.size w w'):Zm w.heap.size w (w'.alloc o):=h.alloc h.size _
theorem bS {w w':Zb}{b i:Nat}{v:Zc}(h:Zm w.heap.size w w')(hb:w.heap.size≤b):Zm w.heap.size w (w'.setCell ⟨b,i,none⟩ v):=h.setCell (p:=⟨b,i,none⟩) hb _
theorem bD {w w':Zb}(h:Zm w.heap.size w w'):Zm w.heap.size w w'.drew:=h.drew
theorem bN {w w':Zb}{n:Nat}(h:Zm w.heap.size w w'):Zm w.heap.size w (w'.drewN n):=Zan h n
def aff (w:Zb)(v1 v2 v3 v4 v5:Zc)(c:Aw)(e:Ending)(w':Zb):Prop:=
 ∃(q1 q2 q3 q4 q5:Option Addr) (n1 n2 n3 n4 n5 d1 d2 d3 d4 d5 k0 k1 k2:Nat),e=.returned (.tuple #[.agg #[.slice q1 n1 d1,.slice q2 n2 d2,.slice q3 n3 d3,.slice q4 n4 d4,.slice q5 n5 d5,.int .u8 (k0:Nat),.int .u8 (k1:Nat),.int .u8 (k2:Nat)],.int .i64 (BR c)])∧Zm w.heap.size w w'∧(BR c=0→#[.slice q1 n1 d1,.slice q2 n2 d2,.slice q3 n3 d3,.slice q4 n4 d4,.slice q5 n5 d5,.int .u8 (k0:Nat),.int .u8 (k1:Nat),.int .u8 (k2:Nat)]=Ba v1 v2 v3 v4 v5 (Ay c.Aa))
theorem c88 {S:Nat→Prop}{w:Zb}{v1 v2 v3 v4 v5:Zc}{c:Aw}(h:RC S w v1 v2 v3 v4 v5 c)(hS:∀b,S b→b<w.heap.size):Calls Lp 88 #[.agg #[v1,v2,v3,v4,v5]] w (aff w v1 v2 v3 v4 v5 c):=by
 obtain⟨a1,c1,rfl,l1,m1⟩:=h.base.val;obtain⟨a2,c2,rfl,l2,m2⟩:=h.Ag.val;obtain⟨a3,c3,rfl,l3,m3⟩:=h.hooks.val;obtain⟨a4,c4,rfl,l4,m4⟩:=h.Aa.val;obtain⟨a5,c5,rfl,l5,m5⟩:=h.now.val;have I3:=DN;have afg:∀W,Zm w.heap.size w W→Calls Lp 143 #[.agg #[.slice a1 c.base.length c1,.slice a2 c.Ag.length c2,.slice a3 c.hooks.length c3,.slice a4 c.Aa.length c4,.slice a5 c.now.length c5]] W fun e w'=>e=.returned (.int .i64 (De c))∧Zm W.heap.size W w':=fun W hB=>alk (h.Au (CC.Eu hB)) (fun b hb=>by have:=hS b hb;have:=hB.size;omega);have afh:∀W n,n<c.Aa.length→Zm w.heap.size w W→Calls Lp 144 #[.agg #[.slice a1 c.base.length c1,.slice a2 c.Ag.length c2,.slice a3 c.hooks.length c3,.slice a4 c.Aa.length c4,.slice a5 c.now.length c5],.int .i64 n] W fun e w'=>e=.returned (.int .i64 (Ev c n))∧Zm W.heap.size W w':=fun W n hn hB=>alq (h.Au (CC.Eu hB)) hn (fun b hb=>by have:=hS b hb;have:=hB.size;omega);have afi:∀W,Jl c.Aa→Zm w.heap.size w W→Calls Lp 145 #[.agg #[.slice a1 c.base.length c1,.slice a2 c.Ag.length c2,.slice a3 c.hooks.length c3,.slice a4 c.Aa.length c4,.slice a5 c.now.length c5]] W fun e w'=>e=.returned (.tuple #[.agg #[.slice a1 c.base.length c1,.slice a2 c.Ag.length c2,.slice a3 c.hooks.length c3,.slice a4 c.Aa.length c4,.slice a5 c.now.length c5,.int .u8 (Ay c.Aa 0),.int .u8 (Ay c.Aa 1),.int .u8 (Ay c.Aa 2)],.bool (Hj c.Aa)])∧Zm W.heap.size W w':=fun W I4 hB=>als (h.Au (CC.Eu hB)) I4 (fun b hb=>by have:=hS b hb;have:=hB.size;omega);have h89:∀W,Zm w.heap.size w W→Calls Lp 89 #[.agg #[.slice a1 c.base.length c1,.slice a2 c.Ag.length c2,.slice a3 c.hooks.length c3,.slice a4 c.Aa.length c4,.slice a5 c.now.length c5],.slice a5 c.now.length c5] W fun e w'=>e=.returned (.int .i64 (Cj c c.now))∧Zm W.heap.size W w':=fun W hB=>c89 (h.Au (CC.Eu hB)) (h.now.Au (CC.Eu hB)) (fun b hb=>by have:=hS b hb;have:=hB.size;omega);have Bh:Zm w.heap.size w ((w.alloc (.cells #[.slice a1 c.base.length c1,.slice a2 c.Ag.length c2,.slice a3 c.hooks.length c3,.slice a4 c.Aa.length c4,.slice a5 c.now.length c5] 26)).alloc (.cells ah 112)):=((Zi _ _).alloc (Zj _) _).alloc (by simp) _;unfold ah at Bh;have alv:=Zh afg;have alw:=Zh afh;have alx:=Zh afi;have H89:=Zh h89;clear afg afh afi h89;go_enter Lp.func88,n88;go_wp2_with (first|(go_at_call 143;refine(alv.out _ Bh).mono ?_;rintro e w1 ⟨rfl,BA⟩;obtain⟨SM,vl⟩:=EM BA)|(go_at_call 100;refine(rW _ _ _).mono ?_;rintro e w' ⟨rfl,rfl⟩))
 ·have q1:(De c !=0)=true:=by assumption
  have e1:BR c=De c:=by rw[BR,Ku (Gd q1)]
  refine ZX (v:=.tuple #[.agg #[.slice none 0 0,.slice none 0 0,.slice none 0 0,.slice none 0 0,.slice none 0 0,.int .u8 0,.int .u8 0,.int .u8 0],.int .i64 (De c)]) (by rw[Yp rfl];go_simp) rfl ?_;exact⟨none,none,none,none,none,0,0,0,0,0,0,0,0,0,0,0,0,0,by rw[e1];rfl,R3 (Bh.trans (BA.mono (by simp;omega))) _ _ _ _ _ _ _ _,fun x=>absurd (e1▸x) (Gd q1)⟩
 ·have q1:(De c !=0)=false:=by assumption
  have q2:(C_ c.Aa.length 3 !=0)=true:=by assumption
  have e1:BR c=C_ c.Aa.length 3:=by rw[BR,BP (Fp q1),Ku (Gd q2)]
  refine ZX (v:=.tuple #[.agg #[.slice none 0 0,.slice none 0 0,.slice none 0 0,.slice none 0 0,.slice none 0 0,.int .u8 0,.int .u8 0,.int .u8 0],.int .i64 (C_ c.Aa.length 3)]) (by rw[Yp rfl];go_simp) rfl ?_;exact⟨none,none,none,none,none,0,0,0,0,0,0,0,0,0,0,0,0,0,by rw[e1];rfl,R3 (Bh.trans (BA.mono (by simp;omega))) _ _ _ _ _ _ _ _,fun x=>absurd (e1▸x) (Gd q2)⟩
 rename (De c !=0)=false=>q1
 rename (C_ _ _ !=0)=false=>q2
 have I4:Jn c=0→Jl c.Aa:=R4 (Fp q2);have HOK:=Zh I4;have HE:=Zh (show BR c=PE (Jn c) (if Hj c.Aa=true then Cj c c.now else 9) by rw[BR,BP (Fp q1),BP (Fp q2)]);have Q1:=Zh q1;have Q2:=Zh q2;clear q1 q2 SM vl I4;go_loopg [27] c.Aa.length (fun g i wr=>∃k:Nat,k≤c.Aa.length∧g=c.Aa.length - k∧i=.int .i64 k∧CP (fun i _=>Ev c i) k (c.Aa.drop k)=Jn c∧Zm ((w.alloc (.cells #[.slice a1 c.base.length c1,.slice a2 c.Ag.length c2,.slice a3 c.hooks.length c3,.slice a4 c.Aa.length c4,.slice a5 c.now.length c5] 26)).alloc (.cells #[.slice none 0 0,.slice none 0 0,.slice none 0 0,.slice none 0 0,.slice none 0 0,.int .u8 0,.int .u8 0,.int .u8 0] 112)).heap.size ((w.alloc (.cells #[.slice a1 c.base.length c1,.slice a2 c.Ag.length c2,.slice a3 c.hooks.length c3,.slice a4 c.Aa.length c4,.slice a5 c.now.length c5] 26)).alloc (.cells #[.slice none 0 0,.slice none 0 0,.slice none 0 0,.slice none 0 0,.slice none 0 0,.int .u8 0,.int .u8 0,.int .u8 0] 112)) wr)
 case atStart=>exact⟨0,Zt _,rfl,rfl,rfl,BA⟩
 case round=>
  obtain⟨k,hk,rfl,rfl,CO,hX⟩:=hrel;have hf:=Zh CO;clear CO;obtain⟨hcx,hfx⟩:=EM hX;have Uh:Zm w.heap.size w wr:=Bh.trans (hX.mono (by simp;omega));by_cases Az:k<c.Aa.length
  ·have hd:=Zh (Kv (f:=fun i _=>Ev c i) (Dk Az))
   go_wp2_with (go_at_call 144;refine(alw.out _ _ Az Uh).mono ?_;rintro e w2 ⟨rfl,Dz⟩;have Ck:=hX.trans (Dz.mono hX.size);obtain⟨Oh,Lf⟩:=EM Ck)
   ·have q3:(Ev c k !=0)=true:=by assumption
    have e3:Jn c=Ev c k:=by rw[←hf.out,hd.out,if_neg (Gd q3)]
    have e1:BR c=Ev c k:=by rw[HE.out,e3,Ku (Gd q3)]
    refine ZX (v:=.tuple #[.agg #[.slice none 0 0,.slice none 0 0,.slice none 0 0,.slice none 0 0,.slice none 0 0,.int .u8 0,.int .u8 0,.int .u8 0],.int .i64 (Ev c k)]) (by rw[Yp rfl];go_simp) rfl ?_;exact⟨none,none,none,none,none,0,0,0,0,0,0,0,0,0,0,0,0,0,by rw[e1];rfl,R3 (Bh.trans (Ck.mono (by simp;omega))) _ _ _ _ _ _ _ _,fun x=>absurd (e1▸x) (Gd q3)⟩
   ·have q3:(Ev c k !=0)=false:=by assumption
    go_roundg (c.Aa.length - (k+1))
    case rel=>exact⟨k+1,by omega,rfl,by go_num,by rw[←hf.out,hd.out,if_pos (Fp q3)],Ck⟩
    case measure=>omega
  ·have e3:Jn c=0:=by rw[←hf.out];exact Mf (by omega)
   have I4:=HOK.out e3;have rX:=Zh (show BR c=(if Hj c.Aa=true then Cj c c.now else 9) by rw[HE.out,BP e3]);clear hf e3;go_wp2_with (go_at_call 145;refine(alx.out _ I4 Uh).mono ?_;rintro e w2 ⟨rfl,Dz⟩;have Ck:=hX.trans (Dz.mono hX.size);obtain⟨Oh,Lf⟩:=EM Ck;clear hcx hfx;obtain⟨Fg,El⟩:=ai Ck)
   ·have q3:(!Hj c.Aa)=true:=by assumption
    have e1:BR c=9:=by rw[rX.out,if_neg (by simpa using q3)]
    refine ZX (v:=.tuple #[.agg #[.slice none 0 0,.slice none 0 0,.slice none 0 0,.slice none 0 0,.slice none 0 0,.int .u8 0,.int .u8 0,.int .u8 0],.int .i64 (9)]) (by rw[Yp rfl];go_simp) rfl ?_;have Nb:=Bh.trans (Ck.mono (by simp;omega));refine⟨none,none,none,none,none,0,0,0,0,0,0,0,0,0,0,0,0,0,by rw[e1];rfl,?_,fun x=>by rw[e1]at x;cases x⟩
    repeat (with_reducible first|exact Nb|refine bA ?_|(refine bS ?_ (by omega))|refine bD ?_|refine bN ?_)
   ·have q3:(!Hj c.Aa)=false:=by assumption
    have vk:=Zh (show BR c=Cj c c.now by rw[rX.out,if_pos (by simpa using q3)]);clear q3
    rename (!Hj c.Aa)=false=>q4
    clear q4;have DQ:=Ck.alloc Ck.size (.cells #[.slice a1 c.base.length c1,.slice a2 c.Ag.length c2,.slice a3 c.hooks.length c3,.slice a4 c.Aa.length c4,.slice a5 c.now.length c5,.int .u8 (Ay c.Aa 0),.int .u8 (Ay c.Aa 1),.int .u8 (Ay c.Aa 2)] 112);have Nb:=Bh.trans (DQ.mono (by simp;omega));obtain⟨W4,Et⟩:∃W4,W4=(w2.alloc (.cells #[.slice a1 c.base.length c1,.slice a2 c.Ag.length c2,.slice a3 c.hooks.length c3,.slice a4 c.Aa.length c4,.slice a5 c.now.length c5,.int .u8 (Ay c.Aa 0),.int .u8 (Ay c.Aa 1),.int .u8 (Ay c.Aa 2)] 112)):=⟨_,rfl⟩;have y0:=cn w2 #[.slice a1 c.base.length c1,.slice a2 c.Ag.length c2,.slice a3 c.hooks.length c3,.slice a4 c.Aa.length c4,.slice a5 c.now.length c5,.int .u8 (Ay c.Aa 0),.int .u8 (Ay c.Aa 1),.int .u8 (Ay c.Aa 2)] 112 (i:=0) rfl;rw[←Et]at DQ Nb y0⊢;obtain⟨hc4,hf4⟩:=EM DQ;have EN:w.heap.size<W4.heap.size:=by rw[Et,ZG];omega
    have Tc:w.heap.size+1<W4.heap.size:=by rw[Et,ZG];omega
    have hz4:w2.heap.size<W4.heap.size:=by rw[Et,ZG];omega
    have y1:∀j v,#[.slice a1 c.base.length c1,.slice a2 c.Ag.length c2,.slice a3 c.hooks.length c3,.slice a4 c.Aa.length c4,.slice a5 c.now.length c5,.int .u8 (Ay c.Aa 0),.int .u8 (Ay c.Aa 1),.int .u8 (Ay c.Aa 2)][j]?=some v→W4.cell? ⟨w2.heap.size,j,none⟩=some v:=fun j v hv=>by rw[Et];exact cn _ _ _ hv
    have t0:W4.cell? ⟨w2.heap.size,0,none⟩=some (.slice a1 c.base.length c1):=y1 0 _ rfl;have t1:W4.cell? ⟨w2.heap.size,1,none⟩=some (.slice a2 c.Ag.length c2):=y1 1 _ rfl;have t2:W4.cell? ⟨w2.heap.size,2,none⟩=some (.slice a3 c.hooks.length c3):=y1 2 _ rfl;have t3:W4.cell? ⟨w2.heap.size,3,none⟩=some (.slice a4 c.Aa.length c4):=y1 3 _ rfl;have t4:W4.cell? ⟨w2.heap.size,4,none⟩=some (.slice a5 c.now.length c5):=y1 4 _ rfl;have t5:W4.cell? ⟨w2.heap.size,5,none⟩=some (.int .u8 (Ay c.Aa 0)):=y1 5 _ rfl;have t6:W4.cell? ⟨w2.heap.size,6,none⟩=some (.int .u8 (Ay c.Aa 1)):=y1 6 _ rfl;have t7:W4.cell? ⟨w2.heap.size,7,none⟩=some (.int .u8 (Ay c.Aa 2)):=y1 7 _ rfl;clear Et y0 y1 Oh Lf Dz
    go_region_with (first|(go_at_call 89;refine(H89.out _ Nb.drew).mono ?_;rintro e w5 ⟨rfl,IX⟩;have I5:=DQ.drew.trans (IX.mono DQ.drew.size);obtain⟨hc5,hf5⟩:=EM (show Zm W4.heap.size W4 w5 from(Zi W4.heap.size W4).drew.trans IX)))
    all_goals
     go_wp2;refine ZX (v:=.tuple #[.agg #[.slice a1 c.base.length c1,.slice a2 c.Ag.length c2,.slice a3 c.hooks.length c3,.slice a4 c.Aa.length c4,.slice a5 c.now.length c5,.int .u8 (Ay c.Aa 0),.int .u8 (Ay c.Aa 1),.int .u8 (Ay c.Aa 2)],.int .i64 (Cj c c.now)]) (by rw[Yp rfl];go_simp) rfl ?_;have Ot:=Bh.trans (I5.mono (by simp;omega));refine⟨_,_,_,_,_,_,_,_,_,_,_,_,_,_,_,_,_,_,by rw[vk.out],?_,fun _=>rfl⟩
     repeat (with_reducible first|exact Ot|refine bA ?_|(refine bS ?_ (by omega))|refine bD ?_|refine bN ?_)
theorem nJ {S:Nat→Prop}{w:Zb}{v1 v2 v3 v4 v5:Zc}{c:Aw}(h:RC S w v1 v2 v3 v4 v5 c)(hS:∀b,S b→b<w.heap.size)(h0:BR c=0):
  Calls Lp 88 #[.agg #[v1,v2,v3,v4,v5]] w fun e w'=>e=.returned (.tuple #[.agg #[v1,v2,v3,v4,v5,.int .u8 (Ay c.Aa 0),.int .u8 (Ay c.Aa 1),.int .u8 (Ay c.Aa 2)],.int .i64 0])∧Zm w.heap.size w w':=
 (c88 h hS).mono fun e w' ⟨q1,q2,q3,q4,q5,n1,n2,n3,n4,n5,d1,d2,d3,d4,d5,k0,k1,k2,he,hB,hx⟩=>⟨by rw[he,hx h0,h0];rfl,hB⟩
def BZ (c:Aw)(l:List Int):Int:=PE (BR c) (Cj c l)
theorem RC.later {S:Nat→Prop}{w W:Zb}{v1 v2 v3 v4 v5:Zc}{c:Aw}(h:RC S w v1 v2 v3 v4 v5 c)(hB:Zm w.heap.size w W):RC S W v1 v2 v3 v4 v5 c:=h.Au (CC.Eu hB)
theorem A8 {S:Nat→Prop}{w W:Zb}(hS:∀b,S b→b<w.heap.size)(hB:Zm w.heap.size w W):∀b,S b→b<W.heap.size:=fun b hb=>Zl (hS b hb) hB.size
theorem SI.later {S:Nat→Prop}{w W:Zb}{v:Zc}{l:List Int}(h:SI S w v l)(hB:Zm w.heap.size w W):SI S W v l:=h.Au (CC.Eu hB)
theorem SP.later {S:Nat→Prop}{w W:Zb}{v:Zc}{l:List (Int×Int)}(h:SP S w v l)(hB:Zm w.heap.size w W):SP S W v l:=h.Au (CC.Eu hB)
def afk (w:Zb)(v1 v2 v3 v4 v5:Zc)(c:Aw)(l:List Int)(e:Ending)(w':Zb):Prop:=
 ∃(q1 q2 q3 q4 q5:Option Addr) (n1 n2 n3 n4 n5 d1 d2 d3 d4 d5 k0 k1 k2:Nat),e=.returned (.tuple #[.agg #[.slice q1 n1 d1,.slice q2 n2 d2,.slice q3 n3 d3,.slice q4 n4 d4,.slice q5 n5 d5,.int .u8 (k0:Nat),.int .u8 (k1:Nat),.int .u8 (k2:Nat)],.int .i64 (BZ c l)])∧Zm w.heap.size w w'∧(BR c=0→#[.slice q1 n1 d1,.slice q2 n2 d2,.slice q3 n3 d3,.slice q4 n4 d4,.slice q5 n5 d5,.int .u8 (k0:Nat),.int .u8 (k1:Nat),.int .u8 (k2:Nat)]=Ba v1 v2 v3 v4 v5 (Ay c.Aa))
theorem nK {S:Nat→Prop}{w:Zb}{v1 v2 v3 v4 v5 v6:Zc}{c:Aw}{l:List Int}(h:RC S w v1 v2 v3 v4 v5 c)(hl:SI S w v6 l)(hS:∀b,S b→b<w.heap.size):Calls Lp 112 #[.agg #[v1,v2,v3,v4,v5],v6] w (afk w v1 v2 v3 v4 v5 c l):=by
 obtain⟨a1,c1,rfl,l1,m1⟩:=h.base.val;obtain⟨a2,c2,rfl,l2,m2⟩:=h.Ag.val;obtain⟨a3,c3,rfl,l3,m3⟩:=h.hooks.val;obtain⟨a4,c4,rfl,l4,m4⟩:=h.Aa.val;obtain⟨a5,c5,rfl,l5,m5⟩:=h.now.val;have I3:=DN;obtain⟨a6,c6,rfl,l6,m6⟩:=hl.val;have Bh:Zm w.heap.size w ((w.alloc (.cells #[.slice a1 c.base.length c1,.slice a2 c.Ag.length c2,.slice a3 c.hooks.length c3,.slice a4 c.Aa.length c4,.slice a5 c.now.length c5] 26)).alloc (.cells #[.slice none 0 0,.slice none 0 0,.slice none 0 0,.slice none 0 0,.slice none 0 0,.int .u8 0,.int .u8 0,.int .u8 0] 112)):=((Zi _ _).alloc (Zj _) _).alloc (by simp) _;have pN:=Zh (fun W hB=>c88 (w:=W) (h.later hB) (A8 hS hB));have H89:=Zh (fun W hB=>c89 (w:=W) (h.later hB) (hl.later hB) (A8 hS hB));go_enter Lp.func112,al1;go_wp2_with (go_at_call 88;refine(pN.out _ Bh).mono ?_;rintro e w2 ⟨q1,q2,q3,q4,q5,n1,n2,n3,n4,n5,d1,d2,d3,d4,d5,k0,k1,k2,rfl,Ck,hx⟩;obtain⟨Oh,Lf⟩:=EM Ck;obtain⟨Fg,El⟩:=ai Ck;have HX:=Zh hx;clear hx)
 ·have q1:(BR c !=0)=true:=by assumption
  have e1:BZ c l=BR c:=by rw[BZ,Ku (Gd q1)]
  refine ZX (v:=.tuple #[.agg #[.slice none 0 0,.slice none 0 0,.slice none 0 0,.slice none 0 0,.slice none 0 0,.int .u8 0,.int .u8 0,.int .u8 0],.int .i64 (BR c)]) (by rw[Yp rfl];go_simp) rfl ?_;have Nb:=Bh.trans (Ck.mono Bh.size);refine⟨none,none,none,none,none,0,0,0,0,0,0,0,0,0,0,0,0,0,by rw[e1];rfl,?_,fun x=>absurd x (Gd q1)⟩
  repeat (with_reducible first|exact Nb|refine bA ?_|(refine bS ?_ (by omega))|refine bD ?_|refine bN ?_)
 rename (BR c !=0)=false=>q1
 have HE:=Zh (show BZ c l=Cj c l by rw[BZ,BP (Fp q1)]);clear q1;have DQ:=Ck.alloc Ck.size (.cells #[.slice q1 n1 d1,.slice q2 n2 d2,.slice q3 n3 d3,.slice q4 n4 d4,.slice q5 n5 d5,.int .u8 (k0:Nat),.int .u8 (k1:Nat),.int .u8 (k2:Nat)] 112);have Nb:=Bh.trans (DQ.mono Bh.size);obtain⟨W4,Et⟩:∃W4,W4=(w2.alloc (.cells #[.slice q1 n1 d1,.slice q2 n2 d2,.slice q3 n3 d3,.slice q4 n4 d4,.slice q5 n5 d5,.int .u8 (k0:Nat),.int .u8 (k1:Nat),.int .u8 (k2:Nat)] 112)):=⟨_,rfl⟩;have y1:∀j v,#[.slice q1 n1 d1,.slice q2 n2 d2,.slice q3 n3 d3,.slice q4 n4 d4,.slice q5 n5 d5,.int .u8 (k0:Nat),.int .u8 (k1:Nat),.int .u8 (k2:Nat)][j]?=some v→(w2.alloc (.cells #[.slice q1 n1 d1,.slice q2 n2 d2,.slice q3 n3 d3,.slice q4 n4 d4,.slice q5 n5 d5,.int .u8 (k0:Nat),.int .u8 (k1:Nat),.int .u8 (k2:Nat)] 112)).cell? ⟨w2.heap.size,j,none⟩=some v:=fun j v hv=>cn _ _ _ hv;rw[←Et]at DQ Nb y1⊢;obtain⟨hc4,hf4⟩:=EM DQ;have EN:w.heap.size<W4.heap.size:=by rw[Et,ZG];omega
 have Tc:w.heap.size+1<W4.heap.size:=by rw[Et,ZG];omega
 have hz4:w2.heap.size<W4.heap.size:=by rw[Et,ZG];omega
 have t0:W4.cell? ⟨w2.heap.size,0,none⟩=some (.slice q1 n1 d1):=y1 0 _ rfl;have t1:W4.cell? ⟨w2.heap.size,1,none⟩=some (.slice q2 n2 d2):=y1 1 _ rfl;have t2:W4.cell? ⟨w2.heap.size,2,none⟩=some (.slice q3 n3 d3):=y1 2 _ rfl;have t3:W4.cell? ⟨w2.heap.size,3,none⟩=some (.slice q4 n4 d4):=y1 3 _ rfl;have t4:W4.cell? ⟨w2.heap.size,4,none⟩=some (.slice q5 n5 d5):=y1 4 _ rfl;have t5:W4.cell? ⟨w2.heap.size,5,none⟩=some (.int .u8 (k0:Nat)):=y1 5 _ rfl;have t6:W4.cell? ⟨w2.heap.size,6,none⟩=some (.int .u8 (k1:Nat)):=y1 6 _ rfl;have t7:W4.cell? ⟨w2.heap.size,7,none⟩=some (.int .u8 (k2:Nat)):=y1 7 _ rfl;clear Et y1 Oh Lf
 go_region_with (first|(go_at_call 89;refine(H89.out _ Nb.drew).mono ?_;rintro e w5 ⟨rfl,IX⟩;have I5:=DQ.drew.trans (IX.mono DQ.drew.size);obtain⟨hc5,hf5⟩:=EM (show Zm W4.heap.size W4 w5 from(Zi W4.heap.size W4).drew.trans IX)))
 all_goals
  go_wp2;refine ZX (v:=.tuple #[.agg #[.slice q1 n1 d1,.slice q2 n2 d2,.slice q3 n3 d3,.slice q4 n4 d4,.slice q5 n5 d5,.int .u8 (k0:Nat),.int .u8 (k1:Nat),.int .u8 (k2:Nat)],.int .i64 (Cj c l)]) (by rw[Yp rfl];go_simp) rfl ?_;have Ot:=Bh.trans (I5.mono Bh.size);refine⟨_,_,_,_,_,_,_,_,_,_,_,_,_,_,_,_,_,_,by rw[HE.out],?_,HX.out⟩
  repeat (with_reducible first|exact Ot|refine bA ?_|(refine bS ?_ (by omega))|refine bD ?_|refine bN ?_)
theorem Qv {S:Nat→Prop}{w:Zb}{v1 v2 v3 v4 v5 v6:Zc}{c:Aw}{l:List Int}(h:RC S w v1 v2 v3 v4 v5 c)(hl:SI S w v6 l)(hS:∀b,S b→b<w.heap.size)(h0:BR c=0):
  Calls Lp 112 #[.agg #[v1,v2,v3,v4,v5],v6] w fun e w'=>e=.returned (.tuple #[.agg #[v1,v2,v3,v4,v5,.int .u8 (Ay c.Aa 0),.int .u8 (Ay c.Aa 1),.int .u8 (Ay c.Aa 2)],.int .i64 (Cj c l)])∧Zm w.heap.size w w':=
 (nK h hl hS).mono fun e w' ⟨q1,q2,q3,q4,q5,n1,n2,n3,n4,n5,d1,d2,d3,d4,d5,k0,k1,k2,he,hB,hx⟩=>⟨by rw[he,hx h0,BZ,BP h0];rfl,hB⟩
def Ht (m:Nat→Int)(n:Int)(p:Int×Int):Nat→Int:=fun j=>if(j:Int)=p.1 then m j+p.2*n else m j
def Bq (m:Nat→Int)(n:Int):List (Int×Int)→Nat→Int
 | []=>m
 |p::r=>Bq (Ht m n p) n r
def Ew (m:Nat→Int):List (Int×Ax)→Nat→Int
 | []=>m
 |x::r=>Ew (Bq m x.1 x.2.Ak) r
def measure (c:Aw)(l:List Int):Nat→Int:=Ew (fun j=>nth c.base j) (l.zip c.Aa)
structure E6 (c:Aw):Prop where
 E4:1≤c.base.length∧c.base.length≤3
 base:∀i,i<c.base.length→1≤nth c.base i∧nth c.base i≤60
 Ui:c.Ag.length=c.base.length
 Ag:∀i,i<c.Ag.length→-9≤(B1 c.Ag i).1∧(B1 c.Ag i).2≤9∧(B1 c.Ag i).1≤(B1 c.Ag i).2
 hooks:c.hooks.length=c.base.length
 hook:∀i,i<c.hooks.length→0≤nth c.hooks i∧nth c.hooks i≤5
 few:1≤c.Aa.length∧c.Aa.length≤3
 step:∀i,i<c.Aa.length→-2≤(Aj c.Aa i).low∧(Aj c.Aa i).high≤2∧(Aj c.Aa i).low≤(Aj c.Aa i).high
 Ak:∀i,i<c.Aa.length→1≤(Aj c.Aa i).Ak.length∧(Aj c.Aa i).Ak.length≤2
 pull:∀i,i<c.Aa.length→∀k,k<(Aj c.Aa i).Ak.length→0≤(B1 (Aj c.Aa i).Ak k).1∧(B1 (Aj c.Aa i).Ak k).1<c.base.length∧-4≤(B1 (Aj c.Aa i).Ak k).2∧(B1 (Aj c.Aa i).Ak k).2≤4
 over:Jl c.Aa
 left:∀i,i<c.Aa.length→0≤(Aj c.Aa i).left∧(Aj c.Aa i).left≤4
 ring:Hj c.Aa=true
 now:Cj c c.now=0
def Td (m:Nat→Int):Array Zc:= #[.int .i64 (m 0),.int .i64 (m 1),.int .i64 (m 2)]
theorem Gf {m:Nat→Int}{i:Nat}(h:i<3):(Td m)[i]?=some (.int .i64 (m i)):=by
 have:i=0∨i=1∨i=2:=by omega
 rcases this with rfl|rfl|rfl<;>rfl
theorem nL {m:Nat→Int}{i:Nat}(h:i<3)(n b:Int):(Td m).setIfInBounds i (.int .i64 (m i+b*n))=Td (Ht m n ((i:Int),b)):=by
 have:i=0∨i=1∨i=2:=by omega
 rcases this with rfl|rfl|rfl<;>simp[Td,Ht]
theorem nM (b:List Int)(h1:1≤b.length)(h3:b.length≤3):(([.int .i64 0,.int .i64 0,.int .i64 0]:List Zc).take 0++(b.map (ZT .i64)++([.int .i64 0,.int .i64 0,.int .i64 0]:List Zc).drop (0+(b.map (ZT .i64)).length))).toArray=Td (fun j=>nth b j):=by
 match b,h1,h3 with
 | [x],_,_=>rfl
 | [x,y],_,_=>rfl
 | [x,y,z],_,_=>rfl
structure MW (w:Zb)(xs:Array Zc)(m:Nat→Int)(wr:Zb):Prop where
 below:Zm w.heap.size w wr
 box:wr.heap[w.heap.size]?=some (.cells xs 112 (0,0))
 res:wr.heap[w.heap.size+1]?=some (.cells #[.int .i64 0,.int .i64 0,.int .i64 0] 150 (0,0))
 row:wr.heap[w.heap.size+1+1]?=some (.cells (Td m) 150 (0,0))
theorem MW.alloc {w wr:Zb}{xs:Array Zc}{m:Nat→Int}(h:MW w xs m wr)(o:Obj):MW w xs m (wr.alloc o):=⟨bA h.below,Bm h.box _,Bm h.res _,Bm h.row _⟩
theorem MW.drew {w wr:Zb}{xs:Array Zc}{m:Nat→Int}(h:MW w xs m wr):MW w xs m wr.drew:=⟨h.below.drew,h.box,h.res,h.row⟩
theorem MW.set {w wr:Zb}{xs:Array Zc}{m:Nat→Int}(h:MW w xs m wr){i:Nat}(hi:i<3)(n b:Int):MW w xs (Ht m n ((i:Int),b)) (wr.setCell ⟨w.heap.size+1+1,i,none⟩ (.int .i64 (m i+b*n))):=
 ⟨bS h.below (by omega),(AW (by omega) _).trans h.box,(AW (by omega) _).trans h.res,by rw[←nL hi];exact A5 h.row _⟩
theorem MW.r_ {w wr:Zb}{xs:Array Zc}{m:Nat→Int}(h:MW w xs m wr)(m':Nat→Int):MW w xs m' (wr.setRow (w.heap.size+1+1) (Td m')):=
 ⟨below_setRow h.below (by omega) _,(setRow_other _ _ _ _ (by omega)).trans h.box,(setRow_other _ _ _ _ (by omega)).trans h.res,setRow_heap _ _ _ _ _ _ h.row⟩
theorem Kx {m:Nat→Int}{n:Int}{k:Nat}{l:List (Int×Int)}(h:k<l.length):Bq m n (l.drop k)=Bq (Ht m n (B1 l k)) n (l.drop (k+1)):=by
 obtain⟨hk,e⟩:=Zo.1 (D5 h);rw[Z4 hk,e]
 rfl
theorem R5 {m:Nat→Int}{k:Nat}{l:List Int}{s:List Ax}(h1:k<l.length)(h2:k<s.length):Ew m ((l.zip s).drop k)=Ew (Bq m (nth l k) (Aj s k).Ak) ((l.zip s).drop (k+1)):=by
 obtain⟨hk,e⟩:=Zo.1 (Na h1 h2);rw[Z4 hk,e]
 rfl
theorem Hk {m:Nat→Int}{n N:Int}{p:Int×Int}(h:∀j,-N≤m j∧m j≤N)(hp: -4≤p.2∧p.2≤4)(hn: -2≤n∧n≤2):∀j,-(N+8)≤Ht m n p j∧Ht m n p j≤N+8:=by
 intro j;have hj:=h j;have: -8≤p.2*n∧p.2*n≤8:=by
  have:n= -2∨n= -1∨n=0∨n=1∨n=2:=by omega
  rcases this with h|h|h|h|h<;>rw[h]<;>omega
 unfold Ht;split<;>omega
theorem prod_bound {a n:Int}(hp: -4≤a∧a≤4)(hn: -2≤n∧n≤2): -8≤a*n∧a*n≤8:=by
 have:n= -2∨n= -1∨n=0∨n=1∨n=2:=by omega
 rcases this with h|h|h|h|h<;>rw[h]<;>omega
theorem sd {l:List Int}{i:Nat}(h:l.length≤i):nth l i=0:=by simp[nth,h]
theorem Jp {c:Aw}(hv:E6 c):∀j,-60≤nth c.base j∧nth c.base j≤60:=by
 intro j;by_cases h:j<c.base.length
 ·have:=hv.base j h;omega
 ·rw[sd (by omega)];omega
theorem A3 {fn:Func}{p:Tmp}{ty:Zs}(h:fn.results= #[.cell p ty])(tmps:Array Zc)(P:Zp)(w:Zb):
  (results fn tmps).run P w=((asAddr (tmps.getD p Ze)).run P w).andThen fun a w₁=>(loadVar ty a).run P w₁:=by
 simp only[results,h];simp[za,zB]
theorem afl {S:Nat→Prop}{w:Zb}{v1 v2 v3 v4 v5 v6:Zc}{c:Aw}{l:List Int}(h:RC S w v1 v2 v3 v4 v5 c)(hv:E6 c)(hl:SI S w v6 l)(hn:l.length≤c.Aa.length)(hb:∀i,i<l.length→-2≤nth l i∧nth l i≤2)(hS:∀b,S b→b<w.heap.size)(s0 s1 s2:Nat):
  Calls Lp 113 #[.agg #[v1,v2,v3,v4,v5,.int .u8 s0,.int .u8 s1,.int .u8 s2],v6] w fun e w'=>e=.returned (.agg #[.int .i64 (measure c l 0),.int .i64 (measure c l 1),.int .i64 (measure c l 2)])∧Zm w.heap.size w w':=by
 obtain⟨a1,c1,rfl,l1,m1⟩:=h.base.val;obtain⟨a2,c2,rfl,l2,m2⟩:=h.Ag.val;obtain⟨a3,c3,rfl,l3,m3⟩:=h.hooks.val;obtain⟨a4,c4,rfl,l4,m4⟩:=h.Aa.val;obtain⟨a5,c5,rfl,l5,m5⟩:=h.now.val;obtain⟨a6,c6,rfl,l6,m6⟩:=hl.val;have I3:=DN;obtain⟨hg1,rE⟩:=hv.E4;obtain⟨b1,o1,rfl,FZ,kA⟩:=h.base.at_ (i:=0) (by omega);have fO:=hS b1 FZ;have HB:=Zh (fun(W:Zb) (hB:Zm w.heap.size w W) (j:Nat) (u:Zc) (hj:(c.base.map (ZT .i64))[j]?=some u)=>show W.cell? ((⟨b1,o1,none⟩:Addr).add j)=some u by
  rw[ZaT]at hj;cases hx:c.base[j]? with
  |none=>rw[hx]at hj;cases hj
  |some x=>
   rw[hx]at hj;cases hj;have Az:j<c.base.length:=(Zo.1 hx).1;obtain⟨b',o',e,_,hc⟩:=h.base.at_ Az;cases e;rw[show(⟨b1,o1,none⟩:Addr).add j=⟨b1,o1+j,none⟩ by unfold Addr.add;split<;>simp_all,hB.cell (p:=⟨b1,o1+j,none⟩) fO,hc];have:=Bo Az;rw[hx]at this;cases this
   rfl)
 have HM:=Zh (show measure c l=Ew (fun j=>nth c.base j) (l.zip c.Aa) from rfl);go_enter Lp.func113,al2;go_wp2;obtain⟨W3,Hd⟩:∃W3,W3=(((w.alloc (.cells #[.slice (some ⟨b1,o1,none⟩) c.base.length c1,.slice a2 c.Ag.length c2,.slice a3 c.hooks.length c3,.slice a4 c.Aa.length c4,.slice a5 c.now.length c5,.int .u8 s0,.int .u8 s1,.int .u8 s2] 112)).alloc (.cells #[.int .i64 0,.int .i64 0,.int .i64 0] 150)).alloc (.cells #[.int .i64 0,.int .i64 0,.int .i64 0] 150)):=⟨_,rfl⟩;have hM0:MW w #[.slice (some ⟨b1,o1,none⟩) c.base.length c1,.slice a2 c.Ag.length c2,.slice a3 c.hooks.length c3,.slice a4 c.Aa.length c4,.slice a5 c.now.length c5,.int .u8 s0,.int .u8 s1,.int .u8 s2] (fun _=>0) W3:=by
  rw[Hd];refine⟨bA (bA (bA (Zi _ _))),Bm (Bm (Bv _ _) _) _,Bm (by have:=Bv (w.alloc (.cells #[.slice (some ⟨b1,o1,none⟩) c.base.length c1,.slice a2 c.Ag.length c2,.slice a3 c.hooks.length c3,.slice a4 c.Aa.length c4,.slice a5 c.now.length c5,.int .u8 s0,.int .u8 s1,.int .u8 s2] 112)) (.cells #[.int .i64 0,.int .i64 0,.int .i64 0] 150);rwa[ZG]at this) _,by have:=Bv ((w.alloc (.cells #[.slice (some ⟨b1,o1,none⟩) c.base.length c1,.slice a2 c.Ag.length c2,.slice a3 c.hooks.length c3,.slice a4 c.Aa.length c4,.slice a5 c.now.length c5,.int .u8 s0,.int .u8 s1,.int .u8 s2] 112)).alloc (.cells #[.int .i64 0,.int .i64 0,.int .i64 0] 150)) (.cells #[.int .i64 0,.int .i64 0,.int .i64 0] 150);rwa[ZG,ZG]at this⟩
 have Qa:W3.cell? ⟨w.heap.size,0,none⟩=some (.slice (some ⟨b1,o1,none⟩) c.base.length c1):=by
  exact ch hM0.box rfl
 rw[←Hd];clear Hd;go_still_tail 4,(by kernel_rfl);change wpList _ _ _ _ _ W3.drew;refine wpList_copy_own (P:=Lp) rfl (.tmp 10) (.tmp 13) 22 22 rfl 3 (CM ZaF) (by kernel_rfl) (w.heap.size+1+1) 0 3 3 ⟨b1,o1,none⟩ c.base.length c1 rfl rfl #[.int .i64 0,.int .i64 0,.int .i64 0] 150 hM0.row (c.base.map (ZT .i64)) (by rw[List.length_map];exact(Nat.min_eq_left rE).symm) (HB.out _ hM0.below.drew) (by simp;omega) (by intro v hv;obtain⟨x,_,rfl⟩:=List.mem_map.1 hv;rfl) ?_;rw[show(#[.int .i64 0,.int .i64 0,.int .i64 0]:Array Zc).toList=[.int .i64 0,.int .i64 0,.int .i64 0] from rfl,nM _ hg1 rE];obtain⟨W4,Et⟩:∃W4,W4=W3.drew.setRow (w.heap.size+1+1) (Td fun j=>nth c.base j):=⟨_,rfl⟩;have yM:=hM0.drew.r_ (fun j=>nth c.base j);rw[←Et]at yM⊢;clear Et hM0 Qa HB;have hbb:=Jp hv;go_wp2;go_loopg [17] l.length (fun g i wr=>∃(k:Nat) (m:Nat→Int),k≤l.length∧g=l.length - k∧i=.int .i64 k∧Ew m ((l.zip c.Aa).drop k)=measure c l∧(∀j,-(60+16*k)≤m j∧m j≤60+16*k)∧MW w #[.slice (some ⟨b1,o1,none⟩) c.base.length c1,.slice a2 c.Ag.length c2,.slice a3 c.hooks.length c3,.slice a4 c.Aa.length c4,.slice a5 c.now.length c5,.int .u8 s0,.int .u8 s1,.int .u8 s2] m wr)
 case atStart=>exact⟨0,_,Zt _,rfl,rfl,rfl,fun j=>by have:=hbb j;omega,yM⟩
 case round=>
  obtain⟨k,m,hk,rfl,rfl,CO,uV,hM⟩:=hrel;have hf:=Zh CO;clear CO;by_cases Az:k<l.length
  ·have Wj:k<c.Aa.length:=by omega
   have kz:=hb k Az;have hd:=Zh (R5 (m:=m) Az Wj);obtain⟨b6,o6,rfl,bq,pO⟩:=hl.at_ Az;rw[←hM.below.cell (p:=⟨b6,o6+k,none⟩) (hS b6 bq)]at pO;obtain⟨b,o,s2,s3,rfl,S8,FB,PF,Ny,kt,ku,hp,ho⟩:=h.Aa.at_ (i:=k) Wj;obtain⟨a7,c7,rfl,l7,m7⟩:=hp.val;rw[←hM.below.cell (p:=⟨b,o+k*5+2,none⟩) (hS b S8)]at Ny;clear FB PF kt ku;have Wt:=hv.pull k Wj;have hpn:=hv.Ak k Wj;have Jm:=hv.few;have g3:=ch (i:=3) hM.box (v:=.slice (some ⟨b,o,none⟩) c.Aa.length c4) rfl;have hwl:=hM.below.size;have Fg:w.heap.size+1<wr.heap.size:=(Za.1 hM.res).1;have El:w.heap.size+1+1<wr.heap.size:=(Za.1 hM.row).1;obtain⟨n,Fi⟩:∃n,n=nth l k:=⟨_,rfl⟩;rw[←Fi]at pO kz hd;clear Fi;obtain⟨ps,qN⟩:∃ps,ps=(Aj c.Aa k).Ak:=⟨_,rfl⟩;rw[←qN]at Ny hp l7 Wt hpn hd;clear qN;go_wp2;go_loopg [30] ps.length (fun g i wx=>∃(j:Nat) (mm:Nat→Int),j≤ps.length∧g=ps.length - j∧i=.int .i64 j∧Bq mm n (ps.drop j)=Bq m n ps∧(∀i,-(60+16*(k:Int)+8*j)≤mm i∧mm i≤60+16*(k:Int)+8*j)∧MW w #[.slice (some ⟨b1,o1,none⟩) c.base.length c1,.slice a2 c.Ag.length c2,.slice a3 c.hooks.length c3,.slice (some ⟨b,o,none⟩) c.Aa.length c4,.slice a5 c.now.length c5,.int .u8 s0,.int .u8 s1,.int .u8 s2] mm wx)
   case atStart=>exact⟨0,m,Zt _,rfl,rfl,rfl,fun i=>by have:=uV i;omega,hM⟩
   case round=>
    obtain⟨j,mm,hj,rfl,rfl,CO,di,Uj⟩:=hrel;have Lf:=Zh CO;clear CO;by_cases GQ:j<ps.length
    ·obtain⟨b7,o7,rfl,Wi,p1,p2⟩:=hp.at_ GQ
     rw[←Uj.below.cell (p:=⟨b7,o7+j*2,none⟩) (hS b7 Wi)]at p1;rw[←Uj.below.cell (p:=⟨b7,o7+j*2+1,none⟩) (hS b7 Wi)]at p2;have vm:=Zh (Kx (m:=mm) (n:=n) GQ);obtain⟨Og,T5,kC,kD⟩:=Wt j GQ;obtain⟨q,hq⟩:∃q,q=B1 ps j:=⟨_,rfl⟩;rw[←hq]at p1 p2 vm Og T5 kC kD;clear hq;obtain⟨x',y⟩:=q;obtain⟨x,rfl⟩:∃x:Nat,x'=x:=⟨x'.toNat,by simp only at Og;omega⟩;dsimp only at p1 p2 Og T5 kC kD;have bu:x<3:=by omega
     have hxi:(x:Int)<3:=by omega
     have hpr:=prod_bound ⟨kC,kD⟩ kz;have hmx:=di x;have dj:=Uj.alloc (.cells #[.int .i64 x,.int .i64 y] 64);have EN:w.heap.size+1+1<wr.heap.size:=(Za.1 Uj.row).1;obtain⟨W5,I6⟩:∃W5,W5=wr.alloc (.cells #[.int .i64 x,.int .i64 y] 64):=⟨_,rfl⟩;have e0:W5.cell? ⟨wr.heap.size,0,none⟩=some (.int .i64 x):=by rw[I6];exact cn _ _ _ rfl
     have e1:W5.cell? ⟨wr.heap.size,1,none⟩=some (.int .i64 y):=by rw[I6];exact cn _ _ _ rfl
     rw[←I6]at dj;have r0:W5.cell? ⟨w.heap.size+1+1,x,none⟩=some (.int .i64 (mm x)):=ch dj.row (Gf bu);have rf:=cf (i:=x) dj.row;go_wp2;rw[←I6];clear I6;go_still_tail 10,(by kernel_rfl);change wpList _ _ _ _ _ W5.drew;have hM6:=dj.drew.set (i:=x) bu n y;go_wp2;go_roundg (ps.length - (j+1))
     case rel=>exact⟨j+1,Ht mm n ((x:Int),y),by omega,rfl,by go_num,by rw[←Lf.out,vm.out],fun i=>by have:=Hk (N:=60+16*(k:Int)+8*j) (p:=((x:Int),y)) di ⟨kC,kD⟩ kz i;omega,hM6⟩
     case measure=>omega
    ·have e2:mm=Bq m n ps:=by rw[←Lf.out,zf.2 (by omega)];rfl
     subst e2;go_wp2;go_roundg (l.length - (k+1))
     case rel=>exact⟨k+1,_,by omega,rfl,by go_num,by rw[←hf.out,hd.out],fun i=>by have:=di i;have:(j:Int)≤2:=(by omega);omega,Uj⟩
     case measure=>omega
  ·have e1:m=measure c l:=by rw[←hf.out,zf.2 (by simp;omega)];rfl
   subst e1;have g0:=ch (i:=0) hM.row (v:=.int .i64 (measure c l 0)) rfl;have g1:=ch (i:=1) hM.row (v:=.int .i64 (measure c l 1)) rfl;have g2:=ch (i:=2) hM.row (v:=.int .i64 (measure c l 2)) rfl;have f0:=cf (i:=0) hM.res;have f1:=cf (i:=1) hM.res;have f2:=cf (i:=2) hM.res;have t0:=ch (i:=0) hM.res (v:=.int .i64 0) rfl;have t1:=ch (i:=1) hM.res (v:=.int .i64 0) rfl;have t2:=ch (i:=2) hM.res (v:=.int .i64 0) rfl;have hB:=hM.below;go_wp2;refine ZX (v:=.agg #[.int .i64 (measure c l 0),.int .i64 (measure c l 1),.int .i64 (measure c l 2)]) (by rw[A3 rfl];go_simp) rfl ?_;refine⟨rfl,?_⟩
   repeat (with_reducible first|exact hB|refine bA ?_|(refine bS ?_ (by omega))|refine bD ?_|refine bN ?_)
end Go.Proofs.Fit
