/- Part of a proof. -/
import Derived.Test.YtkkjobdfheidkaaGreatDoorQ14
import Derived.Lib.BufferRead
set_option maxRecDepth 100000
set_option maxHeartbeats 6400000
open Bool renaming or_eq_true→ZaA
open Go renaming World→Zb,Value→Zc,below_drewN→Zan,Program→Zp,TypeId→Zs,bodyPost_ret→ZX,wpQuiet_nil→Ye,info_parts→YC,wpList_append_own→ZaV
open Go.Lib renaming hid→Zh,byteCells→z7
open Go.Region renaming wanted→zU
open Go.RowKit renaming Below→Zm
open Go.RowKit.Below renaming refl→Zi
open Go.Value renaming int→ZT
open Go.World renaming alloc→ZaW,size_alloc→ZG,ownsRow_nil→Yz
open List renaming length_cons→zK,ext_getElem?→YM,getElem?_eq_none→ZS,range→ZaB,length_append→ZV,eq_nil_of_length_eq_zero→Y8,getElem?_eq_some_iff→Zo,drop_eq_getElem_cons→Z4,mem_cons_self→zF,mem_cons_of_mem→zr,getElem_of_mem→Zaq,getElem?_eq_getElem→Z7,getD_eq_getElem?_getD→zP,mem_of_getElem?→Yh,getElem?_set_ne→ZM
open Nat renaming zero_le→Zt,le_refl→Zj,not_lt_zero→Zal,zero_add→Ym,le_trans→Zx
namespace Go.Proofs.Fit
open Go Go.RowKit
theorem gd (x y:Int):0≤bits BinOp.xor IntKind.u64 x y / 256∧bits BinOp.xor IntKind.u64 x y / 256<18446744073709551616:=by
 have:0≤bits BinOp.xor IntKind.u64 x y∧bits BinOp.xor IntKind.u64 x y<18446744073709551616:=by
  unfold bits;simp only[IntKind.wrap_u64];omega
 omega
theorem c87 {S:Nat→Prop}{w:Zb}{v:Zc}{l:List Int}{b d:Nat}{st:Int}(hv:SI S w v l)(hS:∀x,S x→x<w.heap.size∧x≠b)(hb:w.heap[b]?=some (.cells #[v,.int .i64 d,.int .u64 st] 106 (0,0)))(hd:d<4611686018427387904):
  Calls Lp 87 #[.pointer (some ⟨b,0,none⟩)] w fun e w'=>∃(P4 n:Int),e=.returned (.int .u64 n)∧(0≤n∧n<18446744073709551616)∧Cf b w w'∧w'.heap[b]?=some (.cells #[v,.int .i64 ((d+1:Nat):Int),.int .u64 P4] 106 (0,0)):=by
 obtain⟨a1,c1,rfl,l1,m1⟩:=hv.val;have I3:=DN;have k0:=ch (i:=0) hb (v:=.slice a1 l.length c1) rfl;have k1:=ch (i:=1) hb (v:=.int .i64 d) rfl;have k2:=ch (i:=2) hb (v:=.int .u64 st) rfl;have f2:=cf (i:=2) hb;have f1:=cf (i:=1) hb;go_enter Lp.func87,n87;go_wp2;generalize IntKind.u64.wrap (IntKind.u64.wrap (st*6364136223846793005)+1442695040888963407)=vD;obtain⟨W1,ko⟩:∃W1,W1=w.setCell ⟨b,2,none⟩ (.int .u64 vD):=⟨_,rfl⟩;have FZ:W1.heap[b]?=some (.cells #[.slice a1 l.length c1,.int .i64 d,.int .u64 vD] 106 (0,0)):=by rw[ko];exact A5 hb _
 have Qe:Cf b w W1:=by rw[ko];exact(Cf.refl _ _).set
 rw[←ko];clear ko k0 k1 k2 f1 f2 hb;have k0:=ch (i:=0) FZ (v:=.slice a1 l.length c1) rfl;have k1:=ch (i:=1) FZ (v:=.int .i64 d) rfl;have k2:=ch (i:=2) FZ (v:=.int .u64 vD) rfl;have f2:=cf (i:=2) FZ;have f1:=cf (i:=1) FZ;have acF:∀(W:Zb) (s2:Int),Cf b w W→W.heap[b]?=some (.cells #[.slice a1 l.length c1,.int .i64 d,.int .u64 s2] 106 (0,0))→True:=fun _ _ _ _=>trivial;clear acF;by_cases Az:d<l.length
 ·obtain⟨b1,o1,rfl,amk,hc⟩:=hv.at_ Az
  have SM:=(Qe.same (T:=fun x=>x≠b) (fun _ h=>h)).cell (p:=⟨b1,o1+d,none⟩) (hS b1 amk).2 hc;clear hc;have i1:(d:Int)<(l.length:Int):=by omega
  have i2:(0:Int)≤(d:Int):=by omega
  obtain⟨x,hx⟩:∃x,x=nth l d:=⟨_,rfl⟩;rw[←hx]at SM;clear hx;go_quiet (fail);go_wp2;obtain⟨W2,QB⟩:∃W2,W2=W1.drewN nq:=⟨_,rfl⟩;have ET:W2.heap[b]?=some (.cells #[.slice (some ⟨b1,o1,none⟩) l.length c1,.int .i64 d,.int .u64 vD] 106 (0,0)):=by rw[QB];exact FZ
  have Sg:Cf b w W2:=by rw[QB];exact Qe.below (Zan (Zi W1.heap.size W1) nq)
  have Oh:W2.cell? ⟨b1,o1+d,none⟩=some (.int .i64 x):=by rw[QB];exact SM
  rw[←QB];clear QB k0 k1 k2 f1 f2 SM FZ;have k0:=ch (i:=0) ET (v:=.slice (some ⟨b1,o1,none⟩) l.length c1) rfl;have k1:=ch (i:=1) ET (v:=.int .i64 d) rfl;have k2:=ch (i:=2) ET (v:=.int .u64 vD) rfl;have f2:=cf (i:=2) ET;have f1:=cf (i:=1) ET;go_still_tail 20,(by kernel_rfl);change wpList _ _ _ _ _ W2.drew;go_wp2;generalize IntKind.u64.wrap (vD+IntKind.u64.wrap (IntKind.u64.wrap x*2862933555777941757))=st2;obtain⟨W3,Hd⟩:∃W3,W3=((W2.setCell ⟨b,2,none⟩ (.int .u64 st2)).setCell ⟨b,1,none⟩ (.int .i64 (d+1))).drew:=⟨_,rfl⟩;have Vj:W3.heap[b]?=some (.cells #[.slice (some ⟨b1,o1,none⟩) l.length c1,.int .i64 (d+1),.int .u64 st2] 106 (0,0)):=by rw[Hd];exact A5 (A5 ET _) _
  have J0:Cf b w W3:=by rw[Hd];exact(Sg.set.set).below (Zi _ _).drew
  rw[←Hd];clear Hd k0 k1 k2 f1 f2;have k2:=ch (i:=2) Vj (v:=.int .u64 st2) rfl;go_quiet (fail);go_wp2;go_ret;exact⟨_,_,rfl,gd _ _,(J0.below (Zi _ _)).below (Zan (Zi W3.heap.size W3) nq),Vj⟩
 ·go_quiet (fail)
  go_wp2;have Sg:=(Qe.below (Zi _ _)).below (Zan (Zi W1.heap.size W1) nq);obtain⟨W3,Hd⟩:∃W3,W3=(W1.drewN nq).setCell ⟨b,1,none⟩ (.int .i64 (d+1)):=⟨_,rfl⟩;have Vj:W3.heap[b]?=some (.cells #[.slice a1 l.length c1,.int .i64 (d+1),.int .u64 vD] 106 (0,0)):=by rw[Hd];exact A5 (show(W1.drewN nq).heap[b]?=some _ from FZ) _
  have J0:Cf b w W3:=by rw[Hd];exact Sg.set
  rw[←Hd];clear Hd k0 k1 k2 f1 f2;have k2:=ch (i:=2) Vj (v:=.int .u64 vD) rfl;go_quiet (fail);go_wp2;go_ret;exact⟨_,_,rfl,gd _ _,(J0.below (Zi _ _)).below (Zan (Zi W3.heap.size W3) nq),Vj⟩
def Ca (w:Zb)(b:Nat)(v:Zc)(d:Nat):Prop:=∃st:Int,w.heap[b]?=some (.cells #[v,.int .i64 d,.int .u64 st] 106 (0,0))
def Lot (w:Zb)(b:Nat)(v:Zc)(d m:Nat)(e:Ending)(w':Zb):Prop:=∃(r d':Nat),e=.returned (.int .i64 r)∧r≤m∧Cf b w w'∧Ca w' b v d'∧d'≤d+1
theorem c27 (v:Zc)(hv:∃a n c,v=.slice a n c)(w:Zb):Calls Lp 27 #[v] w fun e w'=>e=.returned (.pointer (some ⟨w.heap.size,0,none⟩))∧w'=w.alloc (.cells #[v,.int .i64 0,.int .u64 1] 106):=by
 obtain⟨a,n,c,rfl⟩:=hv;go_enter Lp.func27,n27;go_wp2;go_ret;exact⟨rfl,rfl⟩
theorem c29 {S:Nat→Prop}{w:Zb}{v:Zc}{l:List Int}{b d:Nat}{n:Int}(hv:SI S w v l)(hS:∀x,S x→x<w.heap.size∧x≠b)(hL:Ca w b v d)(hd:d<4611686018427387904)(hn:n<4611686018427387904):
  Calls Lp 29 #[.pointer (some ⟨b,0,none⟩),.int .i64 n] w (Lot w b v d n.toNat):=by
 obtain⟨st,hb⟩:=hL;have H87:=Zh (c87 hv hS hb hd);by_cases h1:n<1
 ·go_enter Lp.func29,n29
  go_wp2;go_ret;exact⟨0,d,rfl,Zt _,Cf.refl _ _,⟨st,hb⟩,by omega⟩
 ·obtain⟨m,rfl⟩:∃m:Nat,n=m:=⟨n.toNat,by omega⟩
  have HB:=Zh hb;clear hb;go_enter Lp.func29,n29;go_wp2_with (go_at_call 87;refine H87.out.mono ?_;rintro e w1 ⟨P4,q,rfl,⟨hq0,VE⟩,hU,FZ⟩;obtain⟨q',rfl⟩:∃q':Nat,q=q':=⟨q.toNat,by omega⟩);have rq:(0:Int)≤(q':Int) % ((m:Int)+1):=Int.emod_nonneg _ (by omega);have Wc:(q':Int) % ((m:Int)+1)<(m:Int)+1:=Int.emod_lt_of_pos _ (by omega);have e1:wrap64 ((q':Int) % ((m:Int)+1))=(((q':Int) % ((m:Int)+1)).toNat:Int):=by rw[IntWalk.wrap64_in _ (by omega)];omega
  have E1:=Zh e1;clear e1;go_ret;refine⟨((q':Int) % ((m:Int)+1)).toNat,d+1,by rw[←E1.out];rfl,by omega,hU,⟨P4,FZ⟩,Zj _⟩
theorem c61 {S:Nat→Prop}{w:Zb}{v:Zc}{l:List Int}{b d:Nat}{lo hi:Int}(hv:SI S w v l)(hS:∀x,S x→x<w.heap.size∧x≠b)(hL:Ca w b v d)(hd:d<4611686018427387904)(h1: -1000000≤lo∧lo≤1000000)(h2: -1000000≤hi∧hi≤1000000):
  Calls Lp 61 #[.pointer (some ⟨b,0,none⟩),.int .i64 lo,.int .i64 hi] w fun e w'=>∃(r d':Nat),e=.returned (.int .i64 (lo+r))∧r≤(hi - lo).toNat∧Cf b w w'∧Ca w' b v d'∧d'≤d+1:=by
 have kH:=Zh (c29 (n:=hi - lo) hv hS hL hd (by omega));go_enter Lp.func61,n61;go_wp2_with (go_at_call 29;refine kH.out.mono ?_;rintro e w1 ⟨r,d',rfl,hr,hU,SJ,bw⟩);go_ret;exact⟨r,d',rfl,hr,hU,SJ,bw⟩
theorem c99 {S:Nat→Prop}{w:Zb}{v:Zc}{l:List Int}{b d:Nat}{n:Int}(hv:SI S w v l)(hS:∀x,S x→x<w.heap.size∧x≠b)(hL:Ca w b v d)(hd:d<4611686018427387904)(hn: -1000000≤n∧n≤1000000):
  Calls Lp 99 #[.pointer (some ⟨b,0,none⟩),.int .i64 n] w fun e w'=>∃(r:Bool) (d':Nat),e=.returned (.bool r)∧Cf b w w'∧Ca w' b v d'∧d'≤d+1:=by
 have kH:=Zh (c29 (n:=n - 1) hv hS hL hd (by omega));go_enter Lp.func99,n99;go_wp2_with (go_at_call 29;refine kH.out.mono ?_;rintro e w1 ⟨r,d',rfl,hr,hU,SJ,bw⟩)
 all_goals
  go_ret;exact⟨_,d',rfl,hU,SJ,bw⟩
theorem c98 {S T:Nat→Prop}{w:Zb}{v v2:Zc}{l s:List Int}{b d:Nat}(hv:SI S w v l)(hS:∀x,S x→x<w.heap.size∧x≠b)(hL:Ca w b v d)(hd:d<4611686018427387904)(hs:SI T w v2 s)(hT:∀x,T x→x<w.heap.size∧x≠b)(h1:1≤s.length)(h2:s.length≤1000):
  Calls Lp 98 #[.pointer (some ⟨b,0,none⟩),v2] w fun e w'=>∃(r d':Nat),e=.returned (.int .i64 (nth s r))∧r<s.length∧Cf b w w'∧Ca w' b v d'∧d'≤d+1:=by
 obtain⟨a2,c2,rfl,l2,m2⟩:=hs.val;have I3:=DN;have kH:=Zh (c29 (n:=(s.length:Int) - 1) hv hS hL hd (by omega));go_enter Lp.func98,n98;go_wp2_with (go_at_call 29;refine kH.out.mono ?_;rintro e w1 ⟨r,d',rfl,hr,hU,SJ,bw⟩;(have JZ:r<s.length:=by omega);obtain⟨b2,o2,rfl,ET,hc⟩:=hs.at_ JZ;have Oh:=(hU.same (T:=fun x=>x≠b) (fun _ h=>h)).cell (p:=⟨b2,o2+r,none⟩) (hT b2 ET).2 hc;clear hc);go_ret;exact⟨r,d',rfl,JZ,hU,SJ,bw⟩
section
variable {P:Zp}{ops:Array Oper}{Q:Exit→Act→Zb→Prop}{T:Nat→Zb→Prop}
theorem PO {i:Nat}{r:List (Bool×Nat)}{o:Oper}{a:Act}{w:Zb}(ho:ops[i]?=some o)(hg:o.guard=none)(h:o.wp P a w (fun a' w'=>T i w'∧DR P ops Q T r a' w') Q):DR P ops Q T ((false,i)::r) a w:=by
 unfold DR wpOp;simp only[ho];rw[if_pos (by simp[zU,hg])];exact .inl h
theorem Jv {i:Nat}{r:List (Bool×Nat)}{o:Oper}{v:Zc}{a:Act}{w w':Zb}(ho:ops[i]?=some o)(hg:o.guard=none)(hr:(execOp a.eval o).run P w=.ok (.value v) w')(hT:T i w')
  (h:DR P ops Q T r (a.put o.dst v) w'):DR P ops Q T ((false,i)::r) a w:=by
 refine PO ho hg ?_;unfold Oper.wp;rw[hr,Oper.upon_value];exact⟨hT,h⟩
end
theorem Jw:∀(os:List Obj) (w:Zb),Zm w.heap.size w (os.foldl ZaW w)
 | [],w=>Zi _ _
 |o::r,w=>by
  have h1:Zm w.heap.size w (w.alloc o):=(Zi _ _).alloc (Zj _) _;exact h1.trans ((Jw r (w.alloc o)).mono h1.size)
theorem VO:∀(os:List Obj) (w:Zb) (i:Nat),i<os.length→(os.foldl ZaW w).heap[w.heap.size+i]?=os[i]?
 | [],_,_,h=>absurd h (Zal _)
 |o::r,w,0,_=>by
  show(r.foldl ZaW (w.alloc o)).heap[w.heap.size]?=some o;rw[(Jw r (w.alloc o)).block _ (by simp)];exact Bv w o
 |o::r,w,i+1,h=>by
  have:=VO r (w.alloc o) i (by simpa using h);rw[ZG,show w.heap.size+1+i=w.heap.size+(i+1) by omega]at this;exact this
theorem Oz:∀(os:List Obj) (w:Zb),(os.foldl ZaW w).heap.size=w.heap.size+os.length
 | [],_=>rfl
 |o::r,w=>by
  show(r.foldl ZaW (w.alloc o)).heap.size=_;rw[Oz r,ZG,zK];omega
section
variable {S:Nat→Prop}{w:Zb}{b:Nat}{t:Zs}{f:Nat×Nat}
theorem Mn (l:List Int)(h:w.heap[b]?=some (.cells (l.map (ZT .i64)).toArray t f))(hS:S b)(hl:l.length≤maxLen):SI S w (.slice (some ⟨b,0,none⟩) l.length l.length) l:=by
 refine⟨_,_,rfl,Zj _,hl,fun i x hx=>⟨b,0,[.int .i64 x],rfl,hS,rfl,fun j u hu=>?_,rfl⟩⟩;cases j with
 |zero=>
  cases hu;rw[show 0+i*1+0=i by omega];exact ch h (by simp[hx])
 |succ j=>cases hu
theorem Sh (l:List (Int×Int))(h:w.heap[b]?=some (.cells (l.flatMap fun p=> [ZT .i64 p.1,ZT .i64 p.2]).toArray t f))(hS:S b)(hl:l.length≤maxLen):SP S w (.slice (some ⟨b,0,none⟩) l.length l.length) l:=by
 have key:∀(l:List (Int×Int)) (i:Nat) (x:Int×Int),l[i]?=some x→(l.flatMap fun p=> [ZT .i64 p.1,ZT .i64 p.2])[i*2]?=some (.int .i64 x.1)∧(l.flatMap fun p=> [ZT .i64 p.1,ZT .i64 p.2])[i*2+1]?=some (.int .i64 x.2):=by
  intro l
  induction l with
  |nil=>intro i x hx;cases hx
  |cons p r ih=>
   intro i x hx;cases i with
   |zero=>cases hx;exact⟨rfl,rfl⟩
   |succ i=>
    have:=ih i x (by simpa using hx);rw[show(i+1)*2=i*2+1+1 by omega];exact this
 refine⟨_,_,rfl,Zj _,hl,fun i x hx=>⟨b,0,[.int .i64 x.1,.int .i64 x.2],rfl,hS,rfl,fun j u hu=>?_,rfl⟩⟩;obtain⟨k1,k2⟩:=key l i x hx
 match j,hu with
 |0,hu=>cases hu;exact ch h (by rw[Ym];simpa using k1)
 |1,hu=>cases hu;exact ch h (by rw[Ym];simpa using k2)
end
theorem c85 (a b c d:Int)(w:Zb):Calls Lp 85 #[.int .i64 a,.int .i64 b,.int .i64 c,.int .i64 d] w fun e w'=>e=.returned (.slice (some ⟨w.heap.size,0,none⟩) 2 2)∧Zm w.heap.size w w'∧SP (Cy w.heap.size w') w' (.slice (some ⟨w.heap.size,0,none⟩) 2 2) [(a,b),(c,d)]:=by
 go_enter Lp.func85,n85;go_wp2;go_ret;exact⟨rfl,(Zi _ _).alloc (Zj _) _,Sh [(a,b),(c,d)] (Bv w _) ⟨Zj _,by simp⟩ (by simp[maxLen])⟩
def E_ (a b c:Int):Aw:=⟨[40,30],[(0,4),(0,2)],[0,3],[⟨-2,2,[(0,2)],[],a⟩,⟨-1,2,[(0,1),(1,2)],[0],b⟩,⟨0,1,[(0,2)],[],c⟩],[0,0,0]⟩
def Ux (n:Nat)(a b c:Int):List Obj:=[.cells #[.slice (some ⟨n+1,0,none⟩) 2 2,.slice (some ⟨n+1+1,0,none⟩) 2 2,.slice (some ⟨n+1+1+1,0,none⟩) 2 2,.slice (some ⟨n+1+1+1+1+1+1+1+1,0,none⟩) 3 3,.slice (some ⟨n+1+1+1+1+1+1+1+1+1,0,none⟩) 3 3] 26,.cells #[.int .i64 40,.int .i64 30] 3,.cells #[.int .i64 0,.int .i64 4,.int .i64 0,.int .i64 2] 80,.cells #[.int .i64 0,.int .i64 3] 3,.cells #[.int .i64 0,.int .i64 2] 64,.cells #[.int .i64 0,.int .i64 1,.int .i64 1,.int .i64 2] 64,.cells #[.int .i64 0] 3,.cells #[.int .i64 0,.int .i64 2] 64,.cells #[.int .i64 (-2),.int .i64 2,.slice (some ⟨n+1+1+1+1,0,none⟩) 1 1,.slice none 0 0,.int .i64 a,.int .i64 (-1),.int .i64 2,.slice (some ⟨n+1+1+1+1+1,0,none⟩) 2 2,.slice (some ⟨n+1+1+1+1+1+1,0,none⟩) 1 1,.int .i64 b,.int .i64 0,.int .i64 1,.slice (some ⟨n+1+1+1+1+1+1+1,0,none⟩) 1 1,.slice none 0 0,.int .i64 c] 62,.cells #[.int .i64 0,.int .i64 0,.int .i64 0] 3]
def og (w:Zb)(c:Aw)(e:Ending)(w':Zb):Prop:=∃u1 u2 u3 u4 u5,e=.returned (.agg #[u1,u2,u3,u4,u5])∧Zm w.heap.size w w'∧RC (Cy w.heap.size w') w' u1 u2 u3 u4 u5 c
theorem c84 (a b c:Int)(w:Zb):Calls Lp 84 #[.int .i64 a,.int .i64 b,.int .i64 c] w (og w (E_ a b c)):=by
 go_enter Lp.func84,n84;go_wp2;refine ZX (v:=.agg #[.slice (some ⟨w.heap.size+1,0,none⟩) 2 2,.slice (some ⟨w.heap.size+1+1,0,none⟩) 2 2,.slice (some ⟨w.heap.size+1+1+1,0,none⟩) 2 2,.slice (some ⟨w.heap.size+1+1+1+1+1+1+1+1,0,none⟩) 3 3,.slice (some ⟨w.heap.size+1+1+1+1+1+1+1+1+1,0,none⟩) 3 3]) (by rw[A3 rfl];go_simp) rfl ?_;change og w _ _ ((Ux w.heap.size a b c).foldl ZaW w);have hB:=Jw (Ux w.heap.size a b c) w;have hA:=VO (Ux w.heap.size a b c) w;have hZ:=Oz (Ux w.heap.size a b c) w;refine⟨_,_,_,_,_,rfl,hB,?_⟩;obtain⟨W,hW⟩:∃W,W=(Ux w.heap.size a b c).foldl ZaW w:=⟨_,rfl⟩;rw[←hW]at hB hA hZ⊢;clear hW hB;have hL:(Ux w.heap.size a b c).length=10:=rfl;rw[hL]at hZ;have hN:∀i,i<10→Cy w.heap.size W (w.heap.size+i):=fun i hi=>⟨by omega,by omega⟩;refine⟨Mn [40,30] (hA 1 (by rw[hL];omega)) (hN 1 (by omega)) (by decide),Sh [(0,4),(0,2)] (hA 2 (by rw[hL];omega)) (hN 2 (by omega)) (by decide),Mn [0,3] (hA 3 (by rw[hL];omega)) (hN 3 (by omega)) (by decide),?_,Mn [0,0,0] (hA 9 (by rw[hL];omega)) (hN 9 (by omega)) (by decide)⟩;have e4:=Sh [(0,2)] (hA 4 (by rw[hL];omega)) (hN 4 (by omega)) (by decide);have e5:=Sh [(0,1),(1,2)] (hA 5 (by rw[hL];omega)) (hN 5 (by omega)) (by decide);have e6:=Mn [0] (hA 6 (by rw[hL];omega)) (hN 6 (by omega)) (by decide);have e7:=Sh [(0,2)] (hA 7 (by rw[hL];omega)) (hN 7 (by omega)) (by decide);have e8:=hA 8 (by rw[hL];omega);refine⟨_,_,rfl,Zj _,by decide,fun i x hx=>?_⟩
 match i,hx with
 |0,hx=>
  cases hx;refine⟨w.heap.size+8,0,[.int .i64 (-2),.int .i64 2,.slice (some ⟨w.heap.size+4,0,none⟩) 1 1,.slice none 0 0,.int .i64 a],rfl,hN 8 (by omega),rfl,fun j u hu=>?_,_,_,rfl,e4,VI⟩
  match j,hu with
  |0,hu=>cases hu;exact ch e8 rfl
  |1,hu=>cases hu;exact ch e8 rfl
  |2,hu=>cases hu;exact ch e8 rfl
  |3,hu=>cases hu;exact ch e8 rfl
  |4,hu=>cases hu;exact ch e8 rfl
 |1,hx=>
  cases hx;refine⟨w.heap.size+8,0,[.int .i64 (-1),.int .i64 2,.slice (some ⟨w.heap.size+5,0,none⟩) 2 2,.slice (some ⟨w.heap.size+6,0,none⟩) 1 1,.int .i64 b],rfl,hN 8 (by omega),rfl,fun j u hu=>?_,_,_,rfl,e5,e6⟩
  match j,hu with
  |0,hu=>cases hu;exact ch e8 rfl
  |1,hu=>cases hu;exact ch e8 rfl
  |2,hu=>cases hu;exact ch e8 rfl
  |3,hu=>cases hu;exact ch e8 rfl
  |4,hu=>cases hu;exact ch e8 rfl
 |2,hx=>
  cases hx;refine⟨w.heap.size+8,0,[.int .i64 0,.int .i64 1,.slice (some ⟨w.heap.size+7,0,none⟩) 1 1,.slice none 0 0,.int .i64 c],rfl,hN 8 (by omega),rfl,fun j u hu=>?_,_,_,rfl,e7,VI⟩
  match j,hu with
  |0,hu=>cases hu;exact ch e8 rfl
  |1,hu=>cases hu;exact ch e8 rfl
  |2,hu=>cases hu;exact ch e8 rfl
  |3,hu=>cases hu;exact ch e8 rfl
  |4,hu=>cases hu;exact ch e8 rfl
def KH (a b:List Int):Bool:=decide (a=b)
theorem oh {a b:List Int}(hl:a.length=b.length)(h:∀j,j<a.length→nth a j=nth b j):a=b:=by
 apply YM;intro i;by_cases hi:i<a.length
 ·rw[Bo hi,Bo (by omega),h i hi]
 ·rw[ZS (by omega),ZS (by omega)]
theorem c46 {S T:Nat→Prop}{w:Zb}{v v':Zc}{a b:List Int}(ha:SI S w v a)(hb:SI T w v' b)(hS:∀b,S b→b<w.heap.size)(hT:∀b,T b→b<w.heap.size):
  Calls Lp 46 #[v,v'] w fun e w'=>e=.returned (.bool (KH a b))∧Zm w.heap.size w w':=by
 obtain⟨a1,c1,rfl,l1,m1⟩:=ha.val;obtain⟨a2,c2,rfl,l2,m2⟩:=hb.val;have I3:=DN;by_cases hl:a.length=b.length
 ·have HL:=Zh hl
  clear hl;have hli:((a.length:Int) !=b.length)=false:=by simp[HL.out]
  go_enter Lp.func46,n46;go_wp2;go_loopg [5] a.length (fun g i wr=>∃k:Nat,k≤a.length∧g=a.length - k∧i=.int .i64 k∧(∀j,j<k→nth a j=nth b j)∧Zm w.heap.size w wr)
  case atStart=>exact⟨0,Zt _,rfl,rfl,fun j hj=>absurd hj (Zal _),Zi _ _⟩
  case round=>
   obtain⟨k,hk,rfl,rfl,CO,hB⟩:=hrel;have hf:=Zh CO;clear CO;by_cases Az:k<a.length
   ·have aac:k<b.length:=by have:=HL.out;omega
    obtain⟨b1,o1,rfl,FZ,h1⟩:=ha.at_ Az;obtain⟨b2,o2,rfl,ET,h2⟩:=hb.at_ aac;rw[←hB.cell (p:=⟨b1,o1+k,none⟩) (hS b1 FZ)]at h1;rw[←hB.cell (p:=⟨b2,o2+k,none⟩) (hT b2 ET)]at h2;have i1:(k:Int)<(a.length:Int):=by omega
    have i2:(k:Int)<(b.length:Int):=by omega
    go_wp2;go_quiet (fail);go_wp2
    ·have q:(nth a k !=nth b k)=true:=by assumption
     go_ret;refine⟨?_,Zan hB _⟩;have:KH a b=false:=by
      unfold KH;refine decide_eq_false fun e=>vp q (by rw[e])
     rw[this];rfl
    ·have q:(nth a k !=nth b k)=false:=by assumption
     go_roundg (a.length - (k+1))
     case rel=>exact⟨k+1,by omega,rfl,by go_num,fun j hj=>by
      by_cases e:j=k
      ·rw[e];exact vo q
      ·exact hf.out j (by omega),Zan hB _⟩
     case measure=>omega
   ·have e1:KH a b=true:=decide_eq_true (oh HL.out fun j hj=>hf.out j (by omega))
    have E1:=Zh e1;clear e1 hf;go_wp2;go_ret;exact⟨by rw[E1.out];rfl,hB⟩
 ·have hli:((a.length:Int) !=b.length)=true:=by simp;omega
  have E1:=Zh (show KH a b=false from decide_eq_false fun e=>hl (by rw[e]));clear hl;go_enter Lp.func46,n46;go_wp2;go_ret;exact⟨by rw[E1.out];rfl,Zi _ _⟩
def OA (a b:List (List Int)):Bool:=decide (a=b)
theorem jK {a b:List (List Int)}(hl:a.length=b.length)(h:∀j,j<a.length→CF a j=CF b j):a=b:=by
 apply YM;intro i;by_cases hi:i<a.length
 ·rw[DD hi,DD (by omega),h i hi]
 ·rw[ZS (by omega),ZS (by omega)]
theorem c37 {S T:Nat→Prop}{w:Zb}{v v':Zc}{a b:List (List Int)}(ha:SL S w v a)(hb:SL T w v' b)(hS:∀b,S b→b<w.heap.size)(hT:∀b,T b→b<w.heap.size):
  Calls Lp 37 #[v,v'] w fun e w'=>e=.returned (.bool (OA a b))∧Zm w.heap.size w w':=by
 obtain⟨a1,c1,rfl,l1,m1⟩:=ha.val;obtain⟨a2,c2,rfl,l2,m2⟩:=hb.val;have I3:=DN;by_cases hl:a.length=b.length
 ·have HL:=Zh hl
  clear hl;have hli:((a.length:Int) !=b.length)=false:=by simp[HL.out]
  go_enter Lp.func37,n37;go_wp2;go_loopg [5] a.length (fun g i wr=>∃k:Nat,k≤a.length∧g=a.length - k∧i=.int .i64 k∧(∀j,j<k→CF a j=CF b j)∧Zm w.heap.size w wr)
  case atStart=>exact⟨0,Zt _,rfl,rfl,fun j hj=>absurd hj (Zal _),Zi _ _⟩
  case round=>
   obtain⟨k,hk,rfl,rfl,CO,hB⟩:=hrel;have hf:=Zh CO;clear CO;by_cases Az:k<a.length
   ·have aac:k<b.length:=by have:=HL.out;omega
    obtain⟨b1,o1,u1,rfl,FZ,h1,pP⟩:=ha.at_ Az;obtain⟨b2,o2,u2,rfl,ET,h2,KB⟩:=hb.at_ aac;rw[←hB.cell (p:=⟨b1,o1+k,none⟩) (hS b1 FZ)]at h1;rw[←hB.cell (p:=⟨b2,o2+k,none⟩) (hT b2 ET)]at h2;obtain⟨a3,c3,rfl,l3,m3⟩:=pP.val;obtain⟨a4,c4,rfl,l4,m4⟩:=KB.val;have i1:(k:Int)<(a.length:Int):=by omega
    have i2:(k:Int)<(b.length:Int):=by omega
    have z1:=fun p=>Aq p h1;have z2:=fun p=>Aq p h2;have H46:=Zh (fun W (KC:Zm w.heap.size w W)=>c46 (w:=W) (pP.later KC) (KB.later KC) (A8 hS KC) (A8 hT KC));have HB:=Zh (fun p=>hB.trans ((BS wr p).mono hB.size));cases hq:KH (CF a k) (CF b k) with
    |true=>
     rw[hq]at H46;go_wp2;refine AU (by kernel_rfl) (by kernel_rfl) ?_
     repeat (first|go_big_quiet_step ((go_at_call 46;exact BD (H46.out _ (HB.out _))))|quiet_step ((go_at_call 46;exact BD (H46.out _ (HB.out _)))))
     refine Ye ?_;rintro _ ⟨p,rfl⟩;have Bh:=HB.out p;clear z1 z2;go_wp2;go_roundg (a.length - (k+1))
     case rel=>exact⟨k+1,by omega,rfl,by go_num,fun j hj=>by
      by_cases e:j=k
      ·rw[e];exact of_decide_eq_true hq
      ·exact hf.out j (by omega),Bh⟩
     case measure=>omega
    |false=>
     rw[hq]at H46;have E1:=Zh (show OA a b=false from decide_eq_false fun e=>of_decide_eq_false hq (by rw[e]));clear hq;go_wp2;refine AU (by kernel_rfl) (by kernel_rfl) ?_
     repeat (first|go_big_quiet_step ((go_at_call 46;exact BD (H46.out _ (HB.out _))))|quiet_step ((go_at_call 46;exact BD (H46.out _ (HB.out _)))))
     refine Ye ?_;rintro _ ⟨p,rfl⟩;have Bh:=HB.out p;clear z1 z2;go_wp2;go_ret;exact⟨by rw[E1.out];rfl,Bh⟩
   ·have e1:OA a b=true:=decide_eq_true (jK HL.out fun j hj=>hf.out j (by omega))
    have E1:=Zh e1;clear e1 hf;go_wp2;go_ret;exact⟨by rw[E1.out];rfl,hB⟩
 ·have hli:((a.length:Int) !=b.length)=true:=by simp;omega
  have E1:=Zh (show OA a b=false from decide_eq_false fun e=>hl (by rw[e]));clear hl;go_enter Lp.func37,n37;go_wp2;go_ret;exact⟨by rw[E1.out];rfl,Zi _ _⟩
def Nn (i:Nat)(n:Int):List UInt8:=if 0<n then [UInt8.ofNat (97+i),43,UInt8.ofNat (48+n).toNat] else if n<0 then [UInt8.ofNat (97+i),45,UInt8.ofNat (48 - n).toNat] else []
def FL (l:List Int)(k:Nat):List UInt8:=(ZaB k).flatMap fun i=>Nn i (nth l i)
theorem PQ (l:List Int)(k:Nat):FL l (k+1)=FL l k++Nn k (nth l k):=by
 unfold FL;rw[List.range_succ,List.flatMap_append];simp
theorem om (i:Nat)(n:Int):(Nn i n).length≤3:=by
 unfold Nn;split
 ·simp
 ·split<;>simp
theorem Uy (l:List Int):∀k,(FL l k).length≤3*k
 |0=>by simp[FL]
 |k+1=>by
  have:=Uy l k;have:=om k (nth l k);rw[PQ,ZV];omega
theorem afN:(Tryz.prog.info? 5).map (fun i=>(i.zero,i.size,i.bytes))=some (some (.int .u8 0),1,1):=by kernel_rfl
theorem oq {k m:Nat}(hk:k<3)(hm:m=1∨m=2):z7 (Nn k (m:Int))=[.int .u8 (97+(k:Int)),.int .u8 43,.int .u8 (48+(m:Int))]:=by
 have:k=0∨k=1∨k=2:=by omega
 rcases this with rfl|rfl|rfl<;>rcases hm with rfl|rfl<;>rfl
theorem ot {k m:Nat}(hk:k<3)(hm:m=1∨m=2):z7 (Nn k (-(m:Int)))=[.int .u8 (97+(k:Int)),.int .u8 45,.int .u8 (48+(m:Int))]:=by
 have:k=0∨k=1∨k=2:=by omega
 rcases this with rfl|rfl|rfl<;>rcases hm with rfl|rfl<;>rfl
theorem jL (k:Nat):Nn k 0=[]:=rfl
theorem Uz (a b:List UInt8):z7 (a++b)=z7 a++z7 b:=by unfold z7;exact List.map_append
theorem aN {w:Zb}{x y z:Zc}{t:Zs}{j:Nat}{u:Zc}(hj: [x,y,z][j]?=some u):(w.alloc (.cells #[x,y,z] t)).cell? ((⟨w.heap.size,0,none⟩:Addr).add j)=some u:=by
 rw[show(⟨w.heap.size,0,none⟩:Addr).add j=⟨w.heap.size,j,none⟩ by unfold Addr.add;split<;>simp_all];exact cn w #[x,y,z] t (by simpa using hj)
theorem ou {w:Zb}{base:Nat}{v:Zc}{l:List UInt8}(h:w.ownsRow base 5 1 v l.length (z7 l)):(convert 166 9 v).run Lp w=.ok (.string ⟨l.toArray⟩) w:=by
 rcases h.2 with⟨rfl,h0⟩|⟨g,cap,cur,rfl,hb,hg,h1,h2,h3,h4⟩
 ·have:l=[]:=Y8 h0
  subst this;exact Lib.run_convert_nil_bytes w 166 9 5 0 (CM Tryz.underlying166) (CM Tryz.underlying5) (CM Tryz.underlying9)
 ·exact run_convert_bytes_back w 166 9 5 ⟨g,0,none⟩ cap l (CM Tryz.underlying166) (CM Tryz.underlying5) (CM Tryz.underlying9) (Lib.bytes_of_row hg (by simpa using h4))
def Mo (c:Aw)(l:List Int):List UInt8:=if BZ c l=0 then FL l l.length else []
theorem c69 {S:Nat→Prop}{w:Zb}{v1 v2 v3 v4 v5 v6:Zc}{c:Aw}{l:List Int}(h:RC S w v1 v2 v3 v4 v5 c)(hl:SI S w v6 l)(hS:∀b,S b→b<w.heap.size):
  Calls Lp 69 #[.agg #[v1,v2,v3,v4,v5],v6] w fun e w'=>e=.returned (.tuple #[.string ⟨(Mo c l).toArray⟩,.int .i64 (BZ c l)])∧Zm w.heap.size w w':=by
 obtain⟨a1,c1,rfl,l1,m1⟩:=h.base.val;obtain⟨a2,c2,rfl,l2,m2⟩:=h.Ag.val;obtain⟨a3,c3,rfl,l3,m3⟩:=h.hooks.val;obtain⟨a4,c4,rfl,l4,m4⟩:=h.Aa.val;obtain⟨a5,c5,rfl,l5,m5⟩:=h.now.val;obtain⟨a6,c6,rfl,l6,m6⟩:=hl.val;have I3:=DN;obtain⟨i0,hi,Fg,El,EN⟩:=YC afN;have hu:=CM Tryz.underlying166;have Bw:Zm w.heap.size w (w.alloc (.cells #[.slice a1 c.base.length c1,.slice a2 c.Ag.length c2,.slice a3 c.hooks.length c3,.slice a4 c.Aa.length c4,.slice a5 c.now.length c5] 26)):=(Zi _ _).alloc (Zj _) _;by_cases h0:BZ c l=0
 ·obtain⟨K4,FB⟩:=Bc h0
  have hv:=Gg K4;have HA:=Zh h0;have HV:=Zh (show Mo c l=FL l l.length by rw[Mo,if_pos h0]);have amn:=R9 hv FB;have Vi:l.length≤3:=by have:=(ER FB).1;have:=hv.few;omega
  have Hu:=Zh (fun W hB=>Qv (w:=W) (h.later hB) (hl.later hB) (A8 hS hB) K4);rw[FB]at Hu;clear h0 K4 FB;go_enter Lp.func69,n69;go_wp2_with (go_at_call 112;refine(Hu.out _ Bw).mono ?_;rintro e w1 ⟨rfl,Bh⟩;have BA:=bA (o:=.cells (Ba (.slice a1 c.base.length c1) (.slice a2 c.Ag.length c2) (.slice a3 c.hooks.length c3) (.slice a4 c.Aa.length c4) (.slice a5 c.now.length c5) (Ay c.Aa)) 112) (Bw.trans (Bh.mono Bw.size)));go_loopg [8,22] l.length (fun g v i wr=>∃k:Nat,k≤l.length∧g=l.length - k∧i=.int .i64 k∧wr.ownsRow w.heap.size 5 1 v (FL l k).length (z7 (FL l k))∧Zm w.heap.size w wr)
  case atStart=>exact⟨0,Zt _,rfl,rfl,Yz _ _ _ _,BA⟩
  case round=>
   obtain⟨k,hk,rfl,rfl,AY,hB⟩:=hrel;have hwl:=Uy l k;have D1:=hB.size;have HS:=Zh (PQ l k);by_cases Az:k<l.length
   ·obtain⟨b,o,rfl,hb,hc⟩:=hl.at_ Az
    rw[←hB.cell (p:=⟨b,o+k,none⟩) (hS b hb)]at hc;obtain⟨sH,pU⟩:=amn k Az;obtain⟨n,hn⟩:∃n,n=nth l k:=⟨_,rfl⟩;rw[←hn]at hc sH pU HS;clear hn;have Tb:k<3:=by omega
    by_cases hp:0<n
    ·obtain⟨m,rfl⟩:∃m:Nat,n=m:=⟨n.toNat,by omega⟩
     have aad:m=1∨m=2:=by omega
     have hpc:=oq Tb aad;have HP:=Zh hpc;clear hpc;go_wp2_with (at_builtin;refine ZaV _ rfl (.tmp 30) (.tmp 37) 166 rfl w.heap.size 5 i0 (.int .u8 0) 1 1 hu (D3 hi) Fg El EN rfl (by decide) _ _ _ rfl (AY.alloc _) ⟨_,0,none⟩ 3 3 [.int .u8 (97+(k:Int)),.int .u8 43,.int .u8 (48+(m:Int))] rfl rfl (fun j u hj=>aN hj) (by intro u hu;simp at hu;rcases hu with rfl|rfl|rfl<;>rfl) (by unfold maxLen;omega) (by omega) (by simp;omega) ?_;intro v' w9 Be AG Fi);have I5:Zm w.heap.size w w9:=Br (bA hB) AG (fun q hq=>(AY.lt q hq).1) (by simp;omega);have Cx:w9.ownsRow w.heap.size 5 1 v' (FL l (k+1)).length (z7 (FL l (k+1))):=by
      have hlen:(Nn k (m:Int)).length=3:=by
       have:=congrArg List.length HP.out;simpa[z7]using this
      rw[HS.out,Uz,HP.out,ZV,hlen];exact Be
     clear Be AG Fi;go_roundg (l.length - (k+1))
     case rel=>exact⟨k+1,by omega,rfl,by go_num,Cx,I5⟩
     case measure=>omega
    ·by_cases hz:n=0
     ·subst hz
      go_wp2;go_roundg (l.length - (k+1))
      case rel=>exact⟨k+1,by omega,rfl,by go_num,by rw[HS.out,jL,List.append_nil];exact AY,hB⟩
      case measure=>omega
     obtain⟨m,rfl⟩:∃m:Nat,n= -(m:Int):=⟨(-n).toNat,by omega⟩;have aad:m=1∨m=2:=by omega
     have hpc:=ot Tb aad;have HP:=Zh hpc;clear hpc;go_wp2_with (at_builtin;refine ZaV _ rfl (.tmp 42) (.tmp 49) 166 rfl w.heap.size 5 i0 (.int .u8 0) 1 1 hu (D3 hi) Fg El EN rfl (by decide) _ _ _ rfl (AY.alloc _) ⟨_,0,none⟩ 3 3 [.int .u8 (97+(k:Int)),.int .u8 45,.int .u8 (48+(m:Int))] rfl rfl (fun j u hj=>aN hj) (by intro u hu;simp at hu;rcases hu with rfl|rfl|rfl<;>rfl) (by unfold maxLen;omega) (by omega) (by simp;omega) ?_;intro v' w9 Be AG Fi);have I5:Zm w.heap.size w w9:=Br (bA hB) AG (fun q hq=>(AY.lt q hq).1) (by simp;omega);have Cx:w9.ownsRow w.heap.size 5 1 v' (FL l (k+1)).length (z7 (FL l (k+1))):=by
      have hlen:(Nn k (-(m:Int))).length=3:=by
       have:=congrArg List.length HP.out;simpa[z7]using this
      rw[HS.out,Uz,HP.out,ZV,hlen];exact Be
     clear Be AG Fi;go_roundg (l.length - (k+1))
     case rel=>exact⟨k+1,by omega,rfl,by go_num,Cx,I5⟩
     case measure=>omega
   ·have U3:k=l.length:=by omega
    subst U3;have JN:=ou AY;obtain⟨a8,c8,rfl,_⟩:=Jr AY;have aui:=Zh AY;clear AY;go_wp2;go_ret2;exact⟨by rw[HV.out,HA.out];rfl,hB⟩
 ·have HV:=Zh (show Mo c l=[] by rw[Mo,if_neg h0])
  have Hu:=Zh (fun W hB=>nK (w:=W) (h.later hB) (hl.later hB) (A8 hS hB));obtain⟨x,hx⟩:∃x,x=BZ c l:=⟨_,rfl⟩;have Og:x≠0:=by rw[hx];exact h0
  have HX:=Zh hx;clear h0 hx;go_enter Lp.func69,n69;go_wp2_with (go_at_call 112;refine(Hu.out _ Bw).mono ?_;rintro e w1 ⟨q1,q2,q3,q4,q5,n1,n2,n3,n4,n5,d1,d2,d3,d4,d5,k0,k1,k2,rfl,Bh,_⟩;have BA:=Bw.trans (Bh.mono Bw.size);rw[←HX.out]);go_ret2;refine⟨by rw[HV.out, ←HX.out];rfl,?_⟩
  repeat (with_reducible first|exact BA|refine bA ?_|(refine bS ?_ (by omega))|refine bD ?_|refine bN ?_)
def Si (lo hi:Int):List Int:=(ZaB (hi+1 - lo).toNat).map fun k:Nat=>lo+(k:Int)
def Mp:List Ax→List (List Int)
 | []=> [[]]
 |s::r=>(Si s.low s.high).flatMap fun n=>(Mp r).map (n:: ·)
def KI (c:Aw):List (List Int):=Mp c.Aa
def K7 (n:Int):Option (List (List Int)×Int)→Bool
 |none=>true
 |some p=>decide (n<p.2)
def Dx (ab:Nat→Nat)(d:Aw)(g:Aw→Option (List (List Int)×Int))(out:Option (List (List Int)×Int))(l:List Int):Option (List (List Int)×Int):=
 match Lh d (CG ab d.now l) with
 |some _=>out
 |none=>match g (Ft d l (CG ab d.now l)) with
  |none=>out
  |some p=>if K7 ((AB (CG ab d.now l)).length+p.2) out=true then some (l::p.1,(AB (CG ab d.now l)).length+p.2) else out
def Gi (ab:Nat→Nat):List (List (List Int))→Aw→Option (List (List Int)×Int)
 | [],_=>some ([],0)
 |f::r,d=>f.foldl (Dx ab d (Gi ab r)) none
theorem dN {α:Type}{g:α→List Int→α}{a:α}{f:List (List Int)}{k:Nat}(h:k<f.length):(f.drop k).foldl g a=(f.drop (k+1)).foldl g (g a (CF f k)):=by
 obtain⟨hk,e⟩:=Zo.1 (DD h);rw[Z4 hk,e]
 rfl
theorem jM {d:Aw}{t:Nat}(h:Lh d t=none):∀x∈AB t,1≤(Aj d.Aa x.toNat).left:=fun x hx=>by
 have:=List.find?_eq_none.1 h x hx;unfold R7 at this;simp at this;omega
structure jN (c d:Aw):Prop where
 base:d.base=c.base
 Ag:d.Ag=c.Ag
 hooks:d.hooks=c.hooks
 len:d.Aa.length=c.Aa.length
 now:d.now.length=c.Aa.length
 left:∀i,i<c.Aa.length→0≤(Aj d.Aa i).left∧(Aj d.Aa i).left≤4
 rest:∀i,i<c.Aa.length→(Aj d.Aa i).Ak=(Aj c.Aa i).Ak∧(Aj d.Aa i).over=(Aj c.Aa i).over∧(Aj d.Aa i).low=(Aj c.Aa i).low∧(Aj d.Aa i).high=(Aj c.Aa i).high
theorem jN.y_ {c d:Aw}{t:Nat}{l:List Int}(h:jN c d)(hl:l.length=c.Aa.length)(hx:∀x,x∈AB t→0≤x∧x<d.Aa.length)(hs:Lh d t=none):jN c (Ft d l t):=by
 refine⟨h.base,h.Ag,h.hooks,(Oy _ _).trans h.len,hl,fun i hi=>?_,fun i hi=>?_⟩
 ·have:=h.left i hi
  show 0≤(Aj (Cz d.Aa (AB t)) i).left∧(Aj (Cz d.Aa (AB t)) i).left≤4;by_cases hm:(i:Int)∈AB t
  ·have h1:=jM hs _ hm
   rw[Int.toNat_natCast]at h1;rcases Mj (AB t) d.Aa i (PL t) hx with e|e<;>rw[e]<;>omega
  ·rw[KD _ _ _ hx hm]
   exact this
 ·have:=h.rest i hi
  obtain⟨e1,e2,e3,e4⟩:=Ml (AB t) d.Aa i hx;show(Aj (Cz d.Aa (AB t)) i).Ak=_∧(Aj (Cz d.Aa (AB t)) i).over=_∧(Aj (Cz d.Aa (AB t)) i).low=_∧(Aj (Cz d.Aa (AB t)) i).high=_;rw[e1,e2,e3,e4];exact this
theorem ox {a b:List Int}(h:a.length=b.length)(hn:∀i,i<a.length→nth a i=nth b i):a=b:=by
 apply YM fun i=>?_;by_cases hi:i<a.length
 ·rw[Bo hi,Bo (by omega),hn i hi]
 ·rw[ZS (by omega),ZS (by omega)]
theorem oy {a b:List Ax}(h:a.length=b.length)(hn:∀i,i<a.length→Aj a i=Aj b i):a=b:=by
 apply YM fun i=>?_;by_cases hi:i<a.length
 ·rw[Dk hi,Dk (by omega),hn i hi]
 ·rw[ZS (by omega),ZS (by omega)]
theorem Ax.ext' {a b:Ax}(h1:a.low=b.low)(h2:a.high=b.high)(h3:a.Ak=b.Ak)(h4:a.over=b.over)(h5:a.left=b.left):a=b:=by
 cases a;cases b;simp_all
theorem jN.eq {c d d':Aw}(h:jN c d)(h':jN c d')(hn:∀i,i<c.Aa.length→nth d.now i=nth d'.now i)(hl:∀i,i<c.Aa.length→(Aj d.Aa i).left=(Aj d'.Aa i).left):d=d':=by
 have e1:=h.base.trans h'.base.symm;have e2:=h.Ag.trans h'.Ag.symm;have e3:=h.hooks.trans h'.hooks.symm;have e4:d.Aa=d'.Aa:=oy (h.len.trans h'.len.symm) fun i hi=>by
  have Df:i<c.Aa.length:=by have:=h.len;omega
  obtain⟨a1,a2,a3,a4⟩:=h.rest i Df;obtain⟨b1,b2,b3,b4⟩:=h'.rest i Df;exact Ax.ext' (a3.trans b3.symm) (a4.trans b4.symm) (a1.trans b1.symm) (a2.trans b2.symm) (hl i Df)
 have e5:d.now=d'.now:=ox (h.now.trans h'.now.symm) fun i hi=>hn i (by have:=h.now;omega);cases d;cases d';simp_all
theorem Mq (ab:Nat→Nat):∀(fs:List (List (List Int))) (d:Aw) (p:List (List Int)×Int),Gi ab fs d=some p→0≤p.2∧p.2≤3*fs.length∧p.1.length=fs.length
 | [],_,p,h=>by cases h;simp
 |f::r,d,p,h=>by
  have key:∀(l:List (List Int)) (o:Option (List (List Int)×Int)),(∀q,o=some q→0≤q.2∧q.2≤3*((f::r).length:Int)∧q.1.length=(f::r).length)→∀q,l.foldl (Dx ab d (Gi ab r)) o=some q→0≤q.2∧q.2≤3*((f::r).length:Int)∧q.1.length=(f::r).length:=by
   intro l
   induction l with
   |nil=>intro o ho q hq;exact ho q hq
   |cons x l ih=>
    intro o ho q hq;refine ih _ (fun q' P2=>?_) q hq;unfold Dx at P2;split at P2
    ·exact ho q' P2
    ·split at P2
     ·exact ho q' P2
     ·next p' j_=>
      split at P2
      ·cases P2
       have:=Mq ab r _ p' j_;have hc:=IY (CG ab d.now x) 3;change(AB (CG ab d.now x)).length≤3 at hc;simp only[zK];omega
      ·exact ho q' P2
  exact key f none (fun q hq=>by cases hq) p h
theorem dO {lo hi x:Int}(h:x∈Si lo hi):lo≤x∧x≤hi:=by
 unfold Si at h;obtain⟨k,hk,rfl⟩:=List.mem_map.1 h;rw[List.mem_range]at hk;omega
theorem Sj:∀(s:List Ax) (l:List Int),l∈Mp s→l.length=s.length∧∀i,i<l.length→(Aj s i).low≤nth l i∧nth l i≤(Aj s i).high
 | [],l,h=>by
  obtain rfl:l=[]:=by simpa[Mp]using h
  exact⟨rfl,fun i hi=>absurd hi (Zal _)⟩
 |t::s,l,h=>by
  unfold Mp at h;obtain⟨n,hn,hl⟩:=List.mem_flatMap.1 h;obtain⟨r,hr,rfl⟩:=List.mem_map.1 hl;obtain⟨h1,h2⟩:=Sj s r hr;refine⟨by simp[h1],fun i hi=>?_⟩;cases i with
  |zero=>exact dO hn
  |succ i=>exact h2 i (by simpa using hi)
theorem aO {α β:Type}{f:α→List β}{k:Nat}:∀(l:List α),(∀x∈l,(f x).length≤k)→(l.flatMap f).length≤l.length*k
 | [],_=>by simp
 |x::r,h=>by
  have h1:=h x (zF ..);have h2:=aO r fun y hy=>h y (zr _ hy);rw[List.flatMap_cons,ZV,zK,Nat.add_mul];omega
theorem dP (lo hi:Int):(Si lo hi).length=(hi+1 - lo).toNat:=by simp[Si]
theorem Sk:∀(s:List Ax),(∀i,i<s.length→-2≤(Aj s i).low∧(Aj s i).high≤2)→(Mp s).length≤5^s.length
 | [],_=>by simp[Mp]
 |t::s,h=>by
  have h0:=h 0 (Nat.succ_pos _);change -2≤t.low∧t.high≤2 at h0;have ih:=Sk s fun i hi=>h (i+1) (Nat.succ_lt_succ hi);unfold Mp;refine Zx (aO _ fun n _=>by rw[List.length_map];exact ih) ?_;rw[dP,zK,Nat.pow_succ,Nat.mul_comm];exact Nat.mul_le_mul_left _ (by omega)
def RelA (R:Nat→Nat→Prop)(ab:Nat→Nat):Prop:=∀j b,(ab j).testBit b=true→R j b
section
variable {R:Nat→Nat→Prop}{ab:Nat→Nat}
theorem oz (tr:∀a b c,R a b→R b c→R a c){i o:Nat}(h:RelA R ab)(hr:R i o):RelA R (Qc ab i o):=by
 intro j b hb;unfold Qc at hb;split at hb
 ·next e=>
  subst e;rw[Nat.testBit_or,ZaA]at hb;rcases hb with hb|hb
  ·exact h _ _ hb
  ·unfold IV at hb
   rw[Nat.testBit_or,ZaA]at hb;rcases hb with hb|hb
   ·exact tr _ _ _ hr (h _ _ hb)
   ·rw[Nat.one_shiftLeft,Nat.testBit_two_pow]at hb
    have:o=b:=by simpa using hb
    exact this▸hr
 ·exact h _ _ hb
theorem Sm (tr:∀a b c,R a b→R b c→R a c){i:Nat}:∀(l:List Int) (ab:Nat→Nat),RelA R ab→(∀x∈l,R i x.toNat)→RelA R (Ih ab i l)
 | [],_,h,_=>h
 |x::r,_,h,hx=>Sm tr r _ (oz tr h (hx x (zF ..))) fun y hy=>hx y (zr _ hy)
theorem Sp (tr:∀a b c,R a b→R b c→R a c):∀(l:List Ax) (ab:Nat→Nat) (i:Nat),RelA R ab→(∀k,k<l.length→∀x∈(Aj l k).over,R (i+k) x.toNat)→RelA R (Kw ab i l)
 | [],_,_,h,_=>h
 |s::r,ab,i,h,hx=>Sp tr r _ (i+1) (Sm tr s.over ab h (hx 0 (Nat.succ_pos _))) fun k hk x hm=>by
  have:=hx (k+1) (Nat.succ_lt_succ hk) x hm;rwa[show i+1+k=i+(k+1) by omega]
theorem PR (tr:∀a b c,R a b→R b c→R a c){l:List Ax}(hx:∀k,k<l.length→∀x∈(Aj l k).over,R k x.toNat):∀(n:Nat) (ab:Nat→Nat),RelA R ab→RelA R (GR ab l n)
 |0,_,h=>h
 |n+1,ab,h=>PR tr hx n _ (Sp tr l ab 0 h fun k hk x hm=>by rw[Ym];exact hx k hk x hm)
theorem aP (tr:∀a b c,R a b→R b c→R a c)(ir:∀a,¬R a a){l:List Ax}(hx:∀k,k<l.length→∀x∈(Aj l k).over,R k x.toNat):Hj l=true:=by
 unfold Hj;rw[List.all_eq_true];intro i _;have h:RelA R (Ay l):=PR tr hx _ _ fun j b hb=>by simp at hb
 cases e:hasB (Ay l i) i
 ·rfl
 ·exact absurd (h i i e) (ir i)
end
theorem FM {n lo hi:Int}(h:lo≤n∧n≤hi):AD n lo hi=false:=by simp[AD];omega
theorem Hn {α:Type}{f:α→Int}:∀ {l:List α},(∀x∈l,f x=0)→A4 f l=0
 | [],_=>rfl
 |x::r,h=>by
  unfold A4;rw[if_pos (h x (zF ..))];exact Hn fun y hy=>h y (zr _ hy)
theorem Jx {α:Type}{f:Nat→α→Int}:∀ {l:List α} {i:Nat},(∀k x,l[k]?=some x→f (i+k) x=0)→CP f i l=0
 | [],_,_=>rfl
 |x::r,i,h=>by
  unfold CP;rw[if_pos (show f i x=0 from h 0 x rfl)];exact Jx fun k y hy=>by
   have:=h (k+1) y (by simpa using hy);rwa[show i+1+k=i+(k+1) by omega]
theorem Np {n m:Int}(h:1≤n∧n≤m):C_ n m=0:=by
 unfold C_;rw[if_neg (by omega),if_neg (by omega)]
theorem aQ {p:Int×Int}{lo hi:Int}(h:lo≤p.1∧p.1≤p.2∧p.2≤hi):CK p lo hi=0:=by
 unfold CK;rw[if_neg (by rw[FM (by omega),FM (by omega)];simp),if_neg (by omega)]
theorem QD {n lo hi:Int}(h:lo≤n∧n≤hi):E0 lo hi n=0:=RZ (FM h)
structure LD (g n own:Nat)(s:Ax):Prop where
 step: -2≤s.low∧s.low≤s.high∧s.high≤2
 few:1≤s.Ak.length∧s.Ak.length≤2
 pull:∀p∈s.Ak,0≤p.1∧p.1<g∧p.2≠0∧-4≤p.2∧p.2≤4
 twice:s.Ak.length=2→(B1 s.Ak 1).1≠(B1 s.Ak 0).1
 over:∀o∈s.over,0≤o∧o<n∧o≠own
 rising:s.over.Pairwise (· < ·)
 left:0≤s.left∧s.left≤4
def Sr (c:Aw)(l:List Int):Prop:=l.length=c.Aa.length∧∀i,i<l.length→(Aj c.Aa i).low≤nth l i∧nth l i≤(Aj c.Aa i).high
structure JM (c:Aw):Prop where
 E4:1≤c.base.length∧c.base.length≤3
 base:∀x∈c.base,20≤x∧x≤30
 Ui:c.Ag.length=c.base.length
 Ag:∀p∈c.Ag,-2≤p.1∧p.1≤p.2∧p.2≤5
 hooks:c.hooks.length=c.base.length
 hook:∀x∈c.hooks,0≤x∧x≤5
 few:1≤c.Aa.length∧c.Aa.length≤3
 seam:∀i,i<c.Aa.length→LD c.base.length c.Aa.length i (Aj c.Aa i)
 way:(∀i,i<c.Aa.length→∀o∈(Aj c.Aa i).over,(i:Int)<o)∨∀i,i<c.Aa.length→∀o∈(Aj c.Aa i).over,o<(i:Int)
 now:Sr c c.now
theorem gh {c:Aw}{l:List Int}(h:Sr c l):Cj c l=0:=by
 unfold Cj;have hl:=h.1;rw[if_neg (by omega),if_neg (by omega)];refine Hn fun p hp=>?_;obtain⟨i,hi,e⟩:=Zaq hp;have iV:i<l.length:=by simp at hi;omega
 have:=Na (l:=l) (m:=c.Aa) iV (by omega);rw[Z7 hi,e]at this;cases this;exact QD (h.2 i iV)
theorem JM.Hj {c:Aw}(h:JM c):Hj c.Aa=true:=by
 rcases h.way with hw|hw
 ·exact aP (R:=fun a b=>a<b) (fun a b c=>Nat.lt_trans) (fun a=>Nat.lt_irrefl a) fun k hk x hx=>by have:=hw k hk x hx;omega
 ·exact aP (R:=fun a b=>b<a) (fun a b c h1 h2=>Nat.lt_trans h2 h1) (fun a=>Nat.lt_irrefl a) fun k hk x hx=>by
   have:=hw k hk x hx;have:=((h.seam k hk).over x hx).1;omega
theorem dQ {l:List Int}(h:l.Pairwise (· < ·)){i:Nat}(h0:0<i)(hi:i<l.length):nth l (i - 1)<nth l i:=by
 have:=List.pairwise_iff_getElem.1 h (i - 1) i (by omega) hi (by omega);simpa[nth,zP,hi,show i - 1<l.length by omega]using this
theorem JM.Ev {c:Aw}(h:JM c){i:Nat}(hi:i<c.Aa.length):Ev c i=0:=by
 have hs:=h.seam i hi;unfold Go.Proofs.Fit.Ev;rw[BP (aQ hs.step),BP (Np (by have:=hs.few;omega)),BP (Jx fun k p hp=>?_),BP (Jx fun k o ho=>?_)]
 ·exact QD hs.left
 ·have hk:=(Zo.1 ho).1
  have hm:=hs.over o (Yh ho);rw[Ym];unfold D6;rw[if_neg (by rw[FM (by omega)];simp;omega),if_neg];rintro⟨h0,hle⟩;have:=dQ hs.rising h0 hk;rw[show nth (Aj c.Aa i).over k=o by unfold nth;rw[zP,ho];rfl]at this;omega
 ·have hk:=(Zo.1 hp).1
  have hm:=hs.pull p (Yh hp);have hf:=hs.few;rw[Ym];unfold EP;rw[FM (by omega),if_neg (by decide),FM (by omega),if_neg (by simp;omega),if_neg];rintro⟨h0,e⟩;have h1:k=1:=by omega
  subst h1;refine hs.twice (by omega) ?_;rw[←e];unfold B1;rw[zP,hp]
  rfl
theorem JM.begin {c:Aw}(h:JM c):BR c=0:=by
 unfold BR De;have e1:C_ (c.base.length:Int) 3=0:=Np (by have:=h.E4;omega);have e2:A4 (E0 1 60) c.base=0:=Hn fun x hx=>QD (by have:=h.base x hx;omega);have e3:A4 (fun p=>CK p (-9) 9) c.Ag=0:=Hn fun p hp=>aQ (by have:=h.Ag p hp;omega);have e4:A4 (E0 0 5) c.hooks=0:=Hn fun x hx=>QD (h.hook x hx);have e5:C_ (c.Aa.length:Int) 3=0:=Np (by have:=h.few;omega);have e6:Jn c=0:=by
  unfold Jn;exact Jx fun k x hx=>by rw[Ym];exact h.Ev (Zo.1 hx).1
 rw[BP e1,BP e2,if_neg (fun x=>x h.Ui),BP e3,if_neg (fun x=>x h.hooks),BP e4,BP e5,BP e6,if_pos h.Hj];exact gh h.now
theorem JM.valid {c:Aw}(h:JM c):E6 c:=Gg h.begin
theorem JM.asked {c:Aw}{l:List Int}(h:JM c)(hl:Sr c l):BZ c l=0:=by
 unfold BZ;rw[BP h.begin,gh hl]
def Qf:List (Int×Int)→Nat→Int
 | [],_=>0
 |p::r,j=>(if(j:Int)=p.1 then p.2 else 0)+Qf r j
theorem OB (n:Int)(j:Nat):∀(l:List (Int×Int)) (m:Nat→Int),Bq m n l j=m j+n*Qf l j
 | [],m=>by simp[Bq,Qf]
 |p::r,m=>by
  show Bq (Ht m n p) n r j=_;rw[OB n j r,Qf,Ht,Int.mul_add];split
  ·rw[Int.mul_comm p.2 n];omega
  ·omega
def total:List (Int×Ax)→Nat→Int
 | [],_=>0
 |p::r,j=>p.1*Qf p.2.Ak j+total r j
theorem Ss (j:Nat):∀(l:List (Int×Ax)) (m:Nat→Int),Ew m l j=m j+total l j
 | [],m=>by simp[Ew,total]
 |p::r,m=>by
  show Ew (Bq m p.1 p.2.Ak) r j=_;rw[Ss j r,OB,total];omega
theorem UA (j:Nat):∀(l:List Int) (s:List Ax) (i:Nat),i<l.length→i<s.length→total ((l.set i (nth l i+1)).zip s) j=total (l.zip s) j+Qf (Aj s i).Ak j
 | [],_,_,h,_=>absurd h (Zal _)
 |_::_,[],_,_,h=>absurd h (Zal _)
 |x::l,t::s,0,_,_=>by
  show(x+1)*Qf t.Ak j+total (l.zip s) j=x*Qf t.Ak j+total (l.zip s) j+Qf t.Ak j;rw[Int.add_mul];omega
 |x::l,t::s,i+1,h,h'=>by
  have:=UA j l s i (by simpa using h) (by simpa using h');show x*Qf t.Ak j+total ((l.set i (nth l i+1)).zip s) j=x*Qf t.Ak j+total (l.zip s) j+Qf (Aj s i).Ak j;omega
theorem VP {c:Aw}{l:List Int}{i:Nat}(h:i<l.length)(h':i<c.Aa.length):measure c (l.set i (nth l i+1))=Bq (measure c l) 1 (Aj c.Aa i).Ak:=by
 funext j
 rw[OB,measure,measure,Ss,Ss,UA j l c.Aa i h h'];omega
theorem aae {c:Aw}{l:List Int}{i:Nat}(hl:Sr c l)(h:i<l.length)(hn:nth l i≠(Aj c.Aa i).high):Sr c (l.set i (nth l i+1)):=by
 refine⟨by rw[List.length_set];exact hl.1,fun k hk=>?_⟩;rw[List.length_set]at hk;have h1:=hl.2 k hk;have h2:=hl.2 i h;by_cases e:k=i
 ·subst e
  have:nth (l.set k (nth l k+1)) k=nth l k+1:=by simp[nth,h]
  rw[this];omega
 ·have:nth (l.set i (nth l i+1)) k=nth l k:=by
   unfold nth;rw[zP,ZM (fun x=>e x.symm), ←zP]
  rw[this];exact h1
end Go.Proofs.Fit
