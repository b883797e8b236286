/- SeamSteps: for every list of numbers, on every schedule and without a data race, the law returns true, and the list reads afterwards as it read before. Conditions: those of the given row alone (the variable errors.errorType starts as the program's text lays it; the card ties that to the text). -/
import Derived.Test.YtkkjobdfheidkaaGreatDoorQ19
import Derived.Test.YtkkjobdfheidkaaGreatDoorQ21
import Derived.Test.YtkkjobdfheidkaaGreatDoorQ15
set_option maxRecDepth 100000
set_option maxHeartbeats 6400000
open And renaming intro→zb
open Array renaming getElem?_eq_some_iff→Za,mem_of_getElem?→zM
open Go renaming World→Zb,Value→Zc,below_drewN→Zan,TypeId→Zs
open Go.IntKind renaming wrap_i64→Y5
open Go.Lib renaming hid→Zh
open Go.Proofs.Tryz renaming prog→Zd
open Go.RowKit renaming Below→Zm
open Go.RowKit.Below renaming refl→Zi
open Go.World renaming block_lt_of_cell?→ZH
open List renaming length_nil→zY,mem_cons_self→zF,mem_cons_of_mem→zr,length_cons→zK,getElem_of_mem→Zaq,getElem?_eq_getElem→Z7,mem_of_getElem?→Yh,drop_eq_nil_iff→zf
open Nat renaming zero_le→Zt,lt_of_lt_of_le→Zl
open Option.some renaming inj→Z2
namespace Go.Proofs.Fit
open Go Go.RowKit
theorem SH (l:List Int):KH l l=true:=by simp[KH]
theorem Cf.pV {b:Nat}{w A B:Zb}(h:Zm w.heap.size w A)(hU:Cf b A B)(hb:w.heap.size≤b):Zm w.heap.size w B:=h.trans ((hU.Du (K:=fun x=>x=b) rfl).below (fun x hx=>by have:x=b:=hx;omega) h.size)
theorem UG {n:Int}(hn: -2≤n∧n≤2):∀(ps:List (Int×Int)) (m:Nat→Int) (N:Int),(∀j,-N≤m j∧m j≤N)→(∀p∈ps,-4≤p.2∧p.2≤4)→∀j,-(N+8*ps.length)≤Bq m n ps j∧Bq m n ps j≤N+8*ps.length
 | [],m,N,h,_,j=>by have:=h j;simp only[Bq,zY];omega
 |p::r,m,N,h,hp,j=>by
  have:=UG hn r (Ht m n p) (N+8) (Hk h (hp p (zF ..)) hn) (fun q hq=>hp q (zr _ hq)) j;simp only[Bq,zK];omega
theorem bk:∀(xs:List (Int×Ax)) (m:Nat→Int) (N:Int),(∀j,-N≤m j∧m j≤N)→(∀x∈xs,(-2≤x.1∧x.1≤2)∧x.2.Ak.length≤2∧∀p∈x.2.Ak,-4≤p.2∧p.2≤4)→∀j,-(N+16*xs.length)≤Ew m xs j∧Ew m xs j≤N+16*xs.length
 | [],m,N,h,_,j=>by have:=h j;simp only[Ew,zY];omega
 |x::r,m,N,h,hx,j=>by
  obtain⟨h1,h2,h3⟩:=hx x (zF ..);have:=bk r (Bq m x.1 x.2.Ak) (N+16) (fun i=>by have:=UG h1 x.2.Ak m N h h3 i;omega) (fun q hq=>hx q (zr _ hq)) j;simp only[Ew,zK];omega
theorem tH {c:Aw}{l:List Int}(hv:E6 c)(hn:l.length≤c.Aa.length)(hb:∀i,i<l.length→-2≤nth l i∧nth l i≤2):∀j,-108≤measure c l j∧measure c l j≤108:=by
 intro j;have hz:(l.zip c.Aa).length≤3:=by have:=hv.few;simp;omega
 have:=bk (l.zip c.Aa) (fun j=>nth c.base j) 60 (Jp hv) (fun x hx=>by
  obtain⟨i,hi,rfl⟩:=Zaq hx;have Df:i<l.length∧i<c.Aa.length:=by simp at hi;omega
  have e:=Na (l:=l) (m:=c.Aa) Df.1 Df.2;rw[Z7 hi]at e;rw[Z2 e];refine⟨hb i Df.1,(hv.Ak i Df.2).2,fun p hp=>?_⟩;obtain⟨k,hk,rfl⟩:=Zaq hp;have e2:=D5 hk;rw[Z7 hk]at e2;rw[Z2 e2];have:=hv.pull i Df.2 k hk;exact⟨this.2.2.1,this.2.2.2⟩) j
 unfold measure;omega
theorem anY {Sn:Nat→Prop}{w:Zb}{lv:Zc}{nums:List Int}(hn:SI Sn w lv nums)(GY:∀x,Sn x→x<w.heap.size)(hG:IZ w):Calls Lp 5 #[lv] w (Two w (.bool true)):=by
 obtain⟨la,lc,rfl,_⟩:=hn.val;have I3:=DN;have H44:=Zh (fun(W:Zb) (b d:Nat) (h1:SI Sn W (.slice la nums.length lc) nums) (h2:∀x,Sn x→x<W.heap.size∧x≠b) (h3:Ca W b (.slice la nums.length lc) d) (h4:d+1000<4611686018427387904)=>show Calls Lp 44 #[.pointer (some ⟨b,0,none⟩),.int .i64 3] W (VW W b (.slice la nums.length lc) d 3) from c44 (s:=3) h1 h2 h3 h4 (by decide));go_enter Lp.func5,n5;go_wp2_with (first|(go_at_call 27;refine(c27 _ ⟨_,_,_,rfl⟩ _).mono ?_;rintro e W1 ⟨rfl,hw⟩;(have Bw:Zm w.heap.size w W1:=by rw[hw];exact bA (Zi _ _));(have Tn:Ca W1 w.heap.size (.slice la nums.length lc) 0:=⟨1,by rw[hw];exact Bv _ _⟩);clear hw;obtain⟨b,hb⟩:∃b,b=w.heap.size:=⟨_,rfl⟩;rw[←hb]at Tn⊢;have HB:=Zh hb;clear hb)|(go_at_call 44;refine(H44.out _ _ _ (hn.later Bw) (fun x hx=>⟨by have:=GY x hx;have:=Bw.size;omega,by have:=GY x hx;have:=HB.out;omega⟩) Tn (by omega)).mono ?_;rintro e W2 ⟨c,u1,u2,u3,u4,u5,d2,rfl,Qh,hd2,wm,hM,hc3⟩;obtain⟨a1,c1,rfl,_⟩:=wm.base.val;obtain⟨a2,c2,rfl,_⟩:=wm.Ag.val;obtain⟨a3,c3,rfl,_⟩:=wm.hooks.val;obtain⟨a4,c4,rfl,_⟩:=wm.Aa.val;obtain⟨a5,c5,rfl,_⟩:=wm.now.val));have GN:b≤w.heap.size∧w.heap.size≤b:=by have:=HB.out;omega
 have El:=Bw.size;have FZ:b<W1.heap.size:=Tn.lt;have EN:=Qh.Cd.size;have Bh:=Cf.pV Bw Qh.Cd (by omega);have pU:=(hn.later Bw).Cd Qh.Cd (fun x hx=>⟨by have:=GY x hx;omega,by have:=GY x hx;omega⟩);obtain⟨X,hX⟩:∃X,X=W2.alloc (.cells #[.slice a1 c.base.length c1,.slice a2 c.Ag.length c2,.slice a3 c.hooks.length c3,.slice a4 c.Aa.length c4,.slice a5 c.now.length c5] 26):=⟨_,rfl⟩;have NF:Zm W2.heap.size W2 X:=by rw[hX];exact bA (Zi _ _)
 have hK:X.heap[W2.heap.size]?=some (.cells #[.slice a1 c.base.length c1,.slice a2 c.Ag.length c2,.slice a3 c.hooks.length c3,.slice a4 c.Aa.length c4,.slice a5 c.now.length c5] 26 (0,0)):=by rw[hX];exact Bv _ _
 obtain⟨q,hq⟩:∃q,q=W2.heap.size:=⟨_,rfl⟩;rw[←hq]at hK;rw[←hX, ←hq];have vO:q<X.heap.size:=(Za.1 hK).1;have Ng:W2.heap.size≤q∧q≤W2.heap.size:=by omega
 clear hX hq;have Jm:=hM.few;have hS:∀x,Cy W1.heap.size W2 x→x<X.heap.size∧x≠b:=fun x hx=>⟨by have:=hx.2;have:=NF.size;omega,by have:=hx.1;omega⟩;refine(c30 (wm.later NF) hS (pU.later NF) (fun x hx=>⟨by have:=GY x hx;have:=NF.size;omega,by have:=GY x hx;omega⟩) (Qh.FQ.later NF) (by omega) (by omega) (fun i hi=>by have:=(hM.seam i hi).step;omega)).mono ?_;rintro e W3 ⟨v3,l,d3,rfl,J0,hL3,hd3,QA,V9,fO⟩;obtain⟨p3,t3,rfl,_⟩:=QA.val;have A5:Sr c l:=⟨V9,fun i hi=>⟨(fO i (by omega)).1,(fO i (by omega)).2 (hM.seam i (by omega)).step.2.1⟩⟩;have F1:=J0.at_ hK (by omega);have Sd:=(wm.later NF).Au (J0.same fun x hx=>(hS x hx).2);have BA:=Cf.pV (Bh.trans (NF.mono Bh.size)) J0 (by omega);have Tc:=J0.size;have hzX:=NF.size;have j6:=Zh A5;have HM:=Zh hM;clear A5 V9 fO hL3 J0 hK pU wm Qh Tn hd2 hd3 hM;have yZ:∀W,Zm W3.heap.size W3 W→RC (fun x=>x<W.heap.size) W (.slice a1 c.base.length c1) (.slice a2 c.Ag.length c2) (.slice a3 c.hooks.length c3) (.slice a4 c.Aa.length c4) (.slice a5 c.now.length c5) c:=fun W hB=>(Sd.later hB).imp fun x hx=>by have:=hx.2;have:=hB.size;show x<W.heap.size;omega
 have tu:∀W,Zm W3.heap.size W3 W→SI (fun x=>x<W.heap.size) W (.slice p3 l.length t3) l:=fun W hB=>Sl.imp (QA.later hB) (fun x hx=>by have:=hx.2;have:=hB.size;show x<W.heap.size;omega) fun _ _ x=>x;have k0:=ch (i:=0) F1 rfl;have k1:=ch (i:=1) F1 rfl;have k2:=ch (i:=2) F1 rfl;have k3:=ch (i:=3) F1 rfl;have k4:=ch (i:=4) F1 rfl;dsimp only;go_wp2;refine(c45 (yZ W3 (Zi _ _)) (tu W3 (Zi _ _)) fun x hx=>hx).mono ?_;rintro e W4 ⟨v4,rfl,Dz,p9⟩;rw[HM.out.asked j6.out];rw[show E8 c l=CH c l by unfold E8;rw[if_pos (HM.out.asked j6.out)]]at p9;obtain⟨p4,t4,rfl,_⟩:=p9.val;have PK:=(Dz.block _ (Za.1 F1).1).trans F1;have aha:∀W,Zm W4.heap.size W4 W→SI (fun x=>x<W.heap.size) W (.slice p4 (CH c l).length t4) (CH c l):=fun W hB=>Sl.imp (p9.later hB) (fun x hx=>by have:=hx.2;have:=hB.size;show x<W.heap.size;omega) fun _ _ x=>x;have Vi:l.length≤c.Aa.length:=by have:=j6.out.1;omega
 have Me:∀i,i<l.length→-2≤nth l i∧nth l i≤2:=fun i hi=>by
  have h1:=j6.out.2 i hi;have h2:=(HM.out.seam i (by omega)).step;omega
 have hvC:=HM.out.valid;have HV:=Zh hvC;clear hvC k0 k1 k2 k3 k4;have k0:=ch (i:=0) PK rfl;have k1:=ch (i:=1) PK rfl;have k2:=ch (i:=2) PK rfl;have k3:=ch (i:=3) PK rfl;have k4:=ch (i:=4) PK rfl;have HL2:=Zh (zb Vi Me);clear Vi Me;dsimp only;go_wp2_with (first|(go_at_call 47;refine(c47 (yZ W4 Dz) HV.out (tu W4 Dz) HL2.out.1 HL2.out.2 fun x hx=>hx).mono ?_;rintro e W5 ⟨u5',rfl,Ck,hs5⟩;obtain⟨p5,t5,rfl,_⟩:=hs5.val)|(go_at_call 46;refine(c46 (aha W5 Ck) (Sl.imp hs5 (fun x (hx:Cy W4.heap.size W5 x)=>hx.2) fun _ _ x=>x) (fun x hx=>hx) fun x hx=>hx).mono ?_;rintro e W6 ⟨rfl,DQ⟩;rw[SH]));have anZ:=bT Ck DQ;have hG4:=hG.later (bT BA Dz);have ao0:=bT BA Dz;clear hs5 Ck DQ hG k0 k1 k2 k3 k4;go_loopg [8] c.Aa.length (fun gg i wr=>∃k:Nat,k≤c.Aa.length∧gg=c.Aa.length - k∧i=.int .i64 k∧Zm W4.heap.size W4 wr)
 case atStart=>exact⟨0,Zt _,rfl,rfl,anZ⟩
 case round=>
  obtain⟨k,hk,rfl,rfl,hBk⟩:=hrel;have ab4:=bT Dz hBk;have hKk:=(hBk.block _ (Za.1 PK).1).trans PK;have k3:=ch (i:=3) hKk (v:=.slice a4 c.Aa.length c4) rfl;have hqk:=(Za.1 hKk).1;by_cases Az:k<c.Aa.length
  ·have U3:k<l.length:=by have:=j6.out.1;omega
   obtain⟨b4,o4,s2,s3,rfl,S8,x0,x1,x2,x3,x4,hp,ho⟩:=(yZ wr ab4).Aa.at_ (i:=k) Az;obtain⟨b6,o6,rfl,bq,pO⟩:=(tu wr ab4).at_ U3;have tL:=Zh (HM.out.seam k Az);have bl:=Zh (fun h=>aae j6.out U3 h);have Bb:=Zh (VP (c:=c) U3 Az);have hnk:=HL2.out.2 k U3;obtain⟨sm,Nz⟩:∃sm,sm=Aj c.Aa k:=⟨_,rfl⟩;rw[←Nz]at x1 tL bl Bb hp;clear x0 x3 x4 ho Nz;obtain⟨nk,Fi⟩:∃nk,nk=nth l k:=⟨_,rfl⟩;rw[←Fi]at pO hnk bl Bb;have HNN:=Zh Fi;clear Fi;obtain⟨low,high,Ak,over,left⟩:=sm;dsimp only at x1 bl Bb hp;obtain⟨pa,pc,rfl,lp1,lp2⟩:=hp.val;have Tb:(k:Int)<(c.Aa.length:Int):=by omega
   have ann:(k:Int)<(l.length:Int):=by omega
   have aan:(0:Int)≤(k:Int):=by omega
   go_wp2;go_quiet (fail);obtain⟨Y,hY⟩:∃Y,Y=wr.drewN nq:=⟨_,rfl⟩;have hBY:Zm wr.heap.size wr Y:=by rw[hY];exact Zan (Zi _ _) nq
   rw[←hY];clear hY;by_cases heq:nk=high
   ·subst heq
    go_wp2;go_roundg (c.Aa.length - (k+1))
    case rel=>exact⟨k+1,Az,rfl,by go_num,bT hBk hBY⟩
    case measure=>omega
   ·have avO:(nk==high)=false:=by simp[heq]
    have ab6:=bT ab4 hBY;have aT:=Zh (bl.out heq);clear bl;have ao1:l.length≤1000:=by have:=HL2.out.1;omega
    have hwn:IntKind.i64.wrap (nk+1)=nk+1:=by rw[Y5];omega
    go_wp2_with (go_at_call 32;refine(Tq (tu Y ab6) ao1).mono ?_;rintro e Y1 ⟨uN,rfl,hBN,hON⟩;obtain⟨gN,cN,cur,rfl,hgN,hcN,_,_,JN,wu⟩:=hON.val (by omega);have ahb:=ch hcN (JN k U3);rw[←HNN.out]at ahb;(have hqg:q≠gN:=by have:=hBY.size;omega);(have hgq:gN≠q:=fun e=>hqg e.symm);have hfN:=cf (i:=k) hcN;have hkY:=(hBN.block _ (by have:=hBY.size;omega)).trans ((hBY.block _ hqk).trans hKk);have m0:=ch (i:=0) hkY rfl;have m1:=ch (i:=1) hkY rfl;have m2:=ch (i:=2) hkY rfl;have m3:=ch (i:=3) hkY rfl;have m4:=ch (i:=4) hkY rfl;have bB:=(Za.1 hkY).1;have hgz:=(Za.1 hcN).1);obtain⟨Y2,hY2⟩:∃Y2,Y2=Y1.setCell ⟨gN,k,none⟩ (.int .i64 (nk+1)):=⟨_,rfl⟩;have Bh:Zm Y.heap.size Y Y2:=by rw[hY2];exact bS hBN hgN
    have hO2:Own Y2 Y.heap.size (.slice (some ⟨gN,0,none⟩) l.length cN) (l.set k (nk+1)):=by rw[hY2];exact wu k (nk+1) U3
    rw[←hY2];clear hY2;have ao2:SI (fun x=>x<Y2.heap.size) Y2 (.slice (some ⟨gN,0,none⟩) l.length cN) (l.set k (nk+1)):=Sl.imp hO2.si (fun x hx=>hx.2) fun _ _ x=>x;refine(c45 (yZ Y2 (bT ab6 Bh)) ao2 fun x hx=>hx).mono ?_;rintro e Y3 ⟨v5,rfl,hBg,hvg⟩;rw[HM.out.asked aT.out];rw[show E8 c (l.set k (nk+1))=CH c (l.set k (nk+1)) by unfold E8;rw[if_pos (HM.out.asked aT.out)]]at hvg;obtain⟨pg,tg,rfl,_⟩:=hvg.val;have avS:=bT ab6 (bT Bh hBg);clear m0 m1 m2 m3 m4 hcN ahb hfN JN wu hON hO2 hkY;dsimp only;go_wp2;have ao5:=bT hBk (bT hBY (bT Bh hBg));have Ps:(CH c l).length=c.base.length:=by simp[CH]
    have Vj:=HM.out.E4;have H32:=Zh (Tq (aha Y3 ao5) (by rw[Ps];omega));refine H32.out.mono ?_;rintro e Y4 ⟨uD,rfl,hBD,hOD⟩;obtain⟨gD,cD,avU,eD,hgD,_⟩:=hOD.val (by rw[Ps];omega);rw[Ps]at eD;subst eD;have hO0:Own Y4 Y3.heap.size (.slice (some ⟨gD,0,none⟩) c.base.length cD) (KM c.base.length (measure c l)):=hOD;have HGL:=Zh Ps;clear Ps hOD;have Gm:=tH HM.out.valid HL2.out.1 HL2.out.2;dsimp only;go_wp2;go_loopg [13] Ak.length (fun gg i wx=>∃(j:Nat) (mm:Nat→Int),j≤Ak.length∧gg=Ak.length - j∧i=.int .i64 j∧Bq mm 1 (Ak.drop j)=Bq (measure c l) 1 Ak∧(∀i,-(108+8*(j:Int))≤mm i∧mm i≤108+8*j)∧Zm Y3.heap.size Y3 wx∧Own wx Y3.heap.size (.slice (some ⟨gD,0,none⟩) c.base.length cD) (KM c.base.length mm))
    case atStart=>exact⟨0,measure c l,Zt _,rfl,rfl,rfl,fun i=>by have:=Gm i;omega,hBD,hO0⟩
    case round=>
     obtain⟨j,mm,hj,rfl,rfl,CO,uV,VU,hOj⟩:=hrel;have hf:=Zh CO;clear CO;have hBq:=bT (bT hBY (bT Bh hBg)) VU;have hKj:=(hBq.block _ hqk).trans hKk;have q3:=ch (i:=3) hKj (v:=.slice (some ⟨b4,o4,none⟩) c.Aa.length c4) rfl;have x2':=(hBq.cell (p:=⟨b4,o4+k*5+2,none⟩) (ZH _ _ x2)).trans x2;obtain⟨gv,avX,avY,e,hgv,JN,_,_,ahd,wv⟩:=hOj.val (by rw[DH];omega);rw[DH]at e ahd wv;cases e;by_cases sX:j<Ak.length
     ·obtain⟨b7,o7,rfl,Wi,p1,p2⟩:=hp.at_ sX
      replace p1:=(hBq.cell (p:=⟨b7,o7+j*2,none⟩) (ZH _ _ p1)).trans p1;replace p2:=(hBq.cell (p:=⟨b7,o7+j*2+1,none⟩) (ZH _ _ p2)).trans p2;have vm:=Zh (Kx (m:=mm) (n:=1) sX);have hpp:=tL.out.pull _ (Yh (D5 sX));obtain⟨pq,hpq⟩:∃pq,pq=B1 Ak j:=⟨_,rfl⟩;rw[←hpq]at p1 p2 vm hpp;clear hpq;obtain⟨x',y⟩:=pq;obtain⟨x,rfl⟩:∃x:Nat,x'=x:=⟨x'.toNat,by simp only at hpp;omega⟩;dsimp only at p1 p2 hpp;have jm:x<c.base.length:=by omega
      have hxi:(x:Int)<(c.base.length:Int):=by omega
      have Lc:(j:Int)<(Ak.length:Int):=by omega
      have jr:=ch JN (ahd x jm);rw[aX jm]at jr;have JP:=cf (i:=x) JN;have hmx:=uV x;have Lf:=tL.out.few;dsimp only at Lf;have sB:IntKind.i64.wrap (mm x+y)=mm x+y:=by rw[Y5];omega
      go_wp2;go_still_tail 36,(by kernel_rfl);change wpList _ _ _ _ _ wr.drew;go_wp2;have ao7:Own (wr.drew.setCell ⟨gD,x,none⟩ (.int .i64 (mm x+y))) Y3.heap.size (.slice (some ⟨gD,0,none⟩) c.base.length cD) (KM c.base.length (Ht mm 1 ((x:Int),y))):=by
       rw[←aY jm 1 y,Int.mul_one];exact wv x _ jm
      go_roundg (Ak.length - (j+1))
      case rel=>exact⟨j+1,Ht mm 1 ((x:Int),y),sX,rfl,by go_num,by rw[←hf.out,vm.out],fun i=>by have:=Hk (N:=108+8*(j:Int)) (p:=((x:Int),y)) (n:=1) uV ⟨hpp.2.2.2.1,hpp.2.2.2.2⟩ (by omega) i;omega,bS VU.drew hgv,ao7⟩
      case measure=>omega
     ·have e2:mm=Bq (measure c l) 1 Ak:=by rw[←hf.out,zf.2 (by omega)];rfl
      have ao8:KM c.base.length mm=CH c (l.set k (nk+1)):=by
       unfold CH KM;rw[Bb.out,e2]
      rw[ao8]at hOj;have hvw:=hvg.later VU;have HVW:=Zh (Sl.imp hvw (fun x (hx:Cy Y2.heap.size Y3 x)=>show x<wr.heap.size from Zl hx.2 VU.size) fun _ _ x=>x);have HDU:=Zh (Sl.imp hOj.si (fun x (hx:Cy Y3.heap.size wr x)=>show x<wr.heap.size from hx.2) fun _ _ x=>x);go_wp2_with (go_at_call 46;refine(c46 HVW.out HDU.out (fun x hx=>hx) fun x hx=>hx).mono ?_;rintro e Y6 ⟨rfl,DQ⟩;rw[SH]);go_roundg (c.Aa.length - (k+1))
      case rel=>exact⟨k+1,Az,rfl,by go_num,bT hBk (bT hBq DQ)⟩
      case measure=>omega
  ·have vS:=bT ao0 hBk
   go_wp2_with (go_at_call 26;refine(c26 wr (hG4.later hBk)).mono ?_;rintro e Z ⟨hBZ,rfl|⟨x,rfl,Vq⟩⟩)
   ·go_ret
    exact⟨bT vS hBZ,.inl rfl⟩
   ·exact⟨rfl,bT vS hBZ,.inr ⟨_,rfl,Vq⟩⟩
end Go.Proofs.Fit
namespace Go.Proofs.YtkkjobdfheidkaaGreatDoor
open Go Go.Conc Go.RowKit Go.Proofs.Fit
set_option maxRecDepth 100000
theorem po:(Rows.seamStepsRow.inPlace==Tryz.prog.inPlace 5)=true:=by kernel_rfl
theorem bm:(Rows.seamStepsRow.unfollowed==Tryz.prog.unfollowed 5)=true:=by kernel_rfl
theorem j7:(Rows.seamStepsRow.recurses==Tryz.prog.recurses 5)=true:=by kernel_rfl
theorem ab8:(Rows.seamStepsRow.named==Tryz.prog.varsNamed 5)=true:=by kernel_rfl
theorem ab9:joinedFacts Zd 5 Tryz.f5 Rows.seamStepsSpec Rows.seamStepsRow=true:=
 jJ (by kernel_rfl) (by kernel_rfl) (by kernel_rfl) (by kernel_rfl) (by kernel_rfl) po bm j7 ab8 (by kernel_rfl) (by kernel_rfl) (by kernel_rfl) (by kernel_rfl) (by kernel_rfl) (by kernel_rfl) (by kernel_rfl) (by kernel_rfl) (by kernel_rfl) rfl rfl rfl rfl rfl rfl (by kernel_rfl) (by kernel_rfl) (by kernel_rfl)
theorem tI (os:Os)(started:os.Started)(H:Type)(enc:Zs×Zc→H):ReturnsInLeavingWide {} Tryz.checked os 5 .any (fun w args=>(Rows.seamStepsSpec.pre enc Zd Tryz.f5 [] false w args∧laidMetH Zd PM w)∧sizedMet enc Zd Tryz.f5 (OpenSpec.ofChange Rows.seamStepsSpec) false w args)
   (Rows.seamStepsSpec.post enc Zd Tryz.f5 false true false false):=
 dJ (s:=Rows.seamStepsSpec) started rfl rfl Tryz.func5 rfl rfl (by kernel_rfl) (by kernel_rfl) rfl (by kernel_rfl) (fun ds h=>by
    match ds,h with
    | [_],_=>rfl)
   (ChangeSpec.witness_shaped (enc:=enc) (C:=Tryz.checked) (os:=os) (X:=fun w _=>laidMetH Zd PM w) false (Uv os) #[.slice none 0 0] 8 rfl (World.shaped_of_RefB (by kernel_rfl) (by kernel_rfl)) (by kernel_rfl) (by kernel_rfl) (by kernel_rfl) (Tk os _))
   (fun W base args ds ps hval hA _ hG=>oc rfl hval hA hG fun w v nums hn hG=>anY hn (fun x hx=>hx) hG)
theorem ao9:Rows.SeamStepsSaid:=
 OpenClaim.holds_of_wide_leaving 5 Tryz.f5 rfl rfl rfl rfl rfl rfl rfl ⟨rfl,rfl,rfl,rfl,rfl⟩ rfl rfl rfl rfl rfl (by kernel_rfl) Tryz.func5 ab9
  (of_decide_eq_true (by kernel_rfl)) (by unfold Func.isWrapper;rw[if_neg (by decide+kernel)];exact⟨rfl,rfl⟩) (fun os started H enc _=>tI os started H enc)
theorem ahe:true=Rows.seamStepsRow.goesBy Tryz.pinned.checked.prog:=by kernel_rfl
theorem steps_holds:Rows.SeamStepsCardSaid:=
 jF [.handle] (true,"d58ada5a772cea19d6c1f322b38be8e13f90afce78f95e9e644b853f050ce369") ao9 (by kernel_rfl) (OpenClaim.laidByTextAt_later rfl rfl oe aa9) rfl ⟨rfl,rfl⟩ sG
  (fun f fn hf Hp=>by
   obtain rfl:f=5:=Z2 ((show Tryz.prog.funcNamed "galloon/galloonlaw02.SeamSteps" =some 5 by kernel_rfl).symm.trans hf)|>.symm;obtain rfl:fn=Tryz.f5:=(Z2 (Tryz.func5.symm.trans Hp)).symm;exact⟨aab,fun j t ht=>by
    have hm:t∈ [22]:=by simpa using zM ht
    have Fv:([22].all fun u=> !Tryz.prog.wantsStandIn u)=true:=by kernel_rfl
    exact(show Tryz.prog.wantsStandIn t=false by simpa using List.all_eq_true.1 Fv t hm)⟩)
  ahe
#print axioms steps_holds
end Go.Proofs.YtkkjobdfheidkaaGreatDoor
