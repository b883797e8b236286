/- Part of a proof. -/
import Derived.Test.YtbhpocnedbajlaaGreatDoorQ06
set_option maxRecDepth 100000
set_option maxHeartbeats 6400000
noncomputable section
set_option linter.all false
open Array renaming getElem?_push_size->Zav,getElem?_modify->Y7,toList->ZbD,mem_of_getElem?->zY,sizeOf_lt_of_mem->Zds,getElem?_map->zF,getElem?_eq_some_iff->Za,getElem?_eq_getElem->Zx,getD_eq_getD_getElem?->Yp
open Bool renaming or_eq_true->ZaK,and_eq_true->ZF,not_eq_true'->ZcF
open Go renaming World->Zb,Value->Zf,TypeId->Zs,loadVar->Zdd,loadCellsFrom->ZdD,storeCells->ZbX,Event->Z9,Frame->ZM,undef->Ze,callFunc->Zz,method->Za5,Program->Zo,storedEv->Yv,Goroutine->Zi,Trace->YZ,runNT->ZaE,FuncId->ZaQ,PanicEntry->zk,stepG->za
open Go.Addr renaming add->Zcu
open Go.Conc renaming AtRel->Zct,stepG_seq->Zn,stepG_region_end->Zg,stepG_ret'->z8,events_results_tmp->ZdW,stepG_skip->ZU,goes_oper_k->zx,mem_listed->zO,evL_cell->YJ,stepG_block->Zbq,crowd->Yj
open Go.Conc.Goes renaming stop->ZT
open Go.Frame renaming enter->Zq
open Go.GStep renaming after->zM
open Go.Goroutine renaming callers->ZaP
open Go.IntKind renaming u8->ZcE
open Go.MemAct renaming ofEvent->ZR,touch?->Yg,low->Zce
open Go.Obj renaming cells->Zbi
open Go.Proofs.Tryz renaming prog->Zc,underlying130->ZaX,func65->ZdY,f65->YV,results65->ZbJ,f95->ZbQ
open Go.Question renaming appendCap->zJ
open Go.Result renaming andThen->zu,evThen->ZaB
open Go.RowKit renaming Below->YH
open Go.RowKit.Below renaming heap_alloc->zD,heap_setCell->Y4
open Go.Sem renaming run_bind->zg,events_bind->ZcI,runT_eq->zh
open Go.Value renaming int->ZL
open Go.World renaming cell?->zy,cell?_of_block->zn,setCell->Z8,block_lt_of_cell?->ZH,frozen?_of_block->ZdX,alloc->Zaz,frozen?->Yo,shape?->Yn
open List renaming range->Yr,all_eq_true->Zdm
open List.cons renaming inj->zL
open Nat renaming le_refl->Zj,le_trans->Zr,zero_le->Zp,lt_of_lt_of_le->Zl
open Option renaming getD_some->Zw,map_some->Zdh
open Option.some renaming inj->ZW
namespace Go.Proofs.Fit
open Go Go.Conc Go.ConcX Go.RowKit Go.Conc.Lib Go.ConcX.Gen Go.Extern
def agB:(Tryz.f95.name== "runtime.NumGoroutine")=false:=k!
def po:Code->Code
 | .cond _ a _=>a
 |c=>c
def Iq:Code:=Tryz.f95.body.getD .skip
def ko:Code:=Wp (Wp (Wp (Fz Iq)))
def O4:Code:=po (Fz (Km ko))
def pq:List Item:=[.code (Fz ko),.inBlock 1,.inLoop (Wp (Wp (Fz Iq))),.inBlock 0]
def pv (m:Nat)(n:Int)(t:Nat)(v2 v3 v8 v9 v10 v11 QC QD QE QF QG QH QI QK v20 QL QM QN QO QP QQ QR QS QT v30 QU QV QW QX QY QZ Q0:Zf)(rest:List Nat):ZM:=
 (base 65).at ⟨#[.iface 128 (.agg #[.int .i64 n]),.iface 130 (.pointer t),v2,v3,(.bool false),(.pointer (some ⟨m+1,0,none⟩)),(.iface 205 (.agg #[hand 130])),(.iface 205 (.agg #[hand 128])),v8,v9,v10,v11,QC,QD,QE,QF,QG,QH,QI,QK,v20,QL,QM,QN,QO,QP,QQ,QR,QS,QT,v30,QU,QV,QW,QX,QY,QZ,.iface 128 (.agg #[.int .i64 n]),.iface 130 (.pointer t),(.agg #[hand 130,.pointer m,.int .u64 150]),(.iface 205 (.agg #[hand 128])),Q0],[]⟩ (.inRegion Dv rest:: [.code .ret])
variable {Shun:Loc->Prop}
variable {B f t k b c i:Nat}
variable {W W2 w:Zb}
variable {n:Int}
variable {f':ZM}
variable {cs:List ZM}
variable {v2 v3 v7 v8 v9 v10 v11 QC QD QE QF QG QH QI QK v20 QL QM QN QO QP QQ QR QS QT v30 QU QV QW QX QY QZ VX VY VZ V9 Q0 v x:Zf}
def agC (hS:∀p:Addr,p.block=0\/p.block=t\/W.heap.size<=p.block->¬Shun (.cell p))(hB:W+4<=B)
 (hV:Va W W2 t 2):Goes Zc true Zct (DE (EvL Shun B)) (fun g w=>∃v2 v3 v8 v9 v10 v11 QC QD QE QF QG QH QI QK v20 QL QM QN QO QP QQ QR QS QT v30 QU QV QW QX QY QZ Q0 W3,g=G ((base 95).at ⟨#[.iface 128 (.agg #[.int .i64 n]),.iface 130 (.pointer t),(.agg #[hand 130,.pointer W,.int .u64 150]),(.iface 205 (.agg #[hand 128])),Ze,Ze,Ze,Ze,Ze,Ze,Ze,Ze,Ze,Ze,Ze,Ze,Ze,Ze,Ze,Ze,Ze,Ze,Ze,Ze,Ze,Ze,Ze,Ze,Ze,Ze,Ze,Ze,Ze,Ze,Ze,Ze,Ze,Ze,Ze,Ze,Ze,Ze,Ze,Ze,Ze,Ze,Ze,Ze,Ze,Ze,Ze,Ze,Ze,Ze,Ze,Ze,Ze,Ze,Ze,Ze,Ze,Ze],[]⟩ [.code Iq]) (pv W n t v2 v3 v8 v9 v10 v11 QC QD QE QF QG QH QI QK v20 QL QM QN QO QP QQ QR QS QT v30 QU QV QW QX QY QZ Q0 [4,5]::f'::cs)/\Va W W3 t 2/\w=W3) 60
   (G ((base 65).at ⟨#[.iface 128 (.agg #[.int .i64 n]),.iface 130 (.pointer t),v2,v3,(.bool false),(.pointer (W+1:Nat)),(.iface 205 (.agg #[hand 130])),(.iface 205 (.agg #[hand 128])),v8,v9,v10,v11,QC,QD,QE,QF,QG,QH,QI,QK,v20,QL,QM,QN,QO,QP,QQ,QR,QS,QT,v30,QU,QV,QW,QX,QY,QZ,VX,VY,VZ,V9,Q0],[]⟩ [.code EW]) (f'::cs)) W2:=by
 simp only[hand,pv,EW,EV,Hz,Hy,Hx,Jj,Ji,Jh,FX,Fz,Km,Gq,Dv,YV,Zw];have hA:=hV.cells;unfold hand at hA;obtain⟨q0,q1,q2⟩:=hA;have qp:=hV.c0;have D':=hV.size
 l_c Zn
 l_reg
 l_op
 l_op
 l_in
 refine zx rfl rfl d! (fun K hK=>?_)
 go_simp
 refine hK _ _ ⟨fun e he=>w!,?_⟩
 clear hK K
 l_op
 l_call Tryz.func95 agB ZbQ
 refine ZT (fun w₁ BO=>?_);obtain⟨d,hd⟩:=BO;subst hd
 try simp only[hand,pv,EW,EV,Hz,Hy,Hx,Jj,Ji,Jh,FX,Fz,Km,Gq,Dv,YV,Zw,O4,ko,Iq,Fz,Km,Wp,po,Gq,ZbQ,Zw]
 exact⟨_,_,_,_,_,_,_,_,_,_,_,_,_,_,_,_,_,_,_,_,_,_,_,_,_,_,_,_,_,_,_,_,_,rfl,hV.at _,rfl⟩
def agD (hS:∀p:Addr,p.block=0\/p.block=t\/W.heap.size<=p.block->¬Shun (.cell p))(hB:W+4<=B)
 (hV:Va W W2 t 2):Goes Zc true Zct (DE (EvL Shun B)) (fun g w=>∃u4 u5 u7 u9 u10 u11 u12 u13 u14 u15 u16 u17 u18 u19 u20 u21 u22 u23 u24 u25 u26 u27 u28 u29 u30 u31 u32 u33 u34 u35 u36 u37 u38 u39 u40 u41 u42 u43 u44 u45 u46 u47 u48 u49 u50 u51 u52 u53 u54 u55 u56 u57 u58 u59 u60 u61 W3,g=G ((base 95).at ⟨#[.iface 128 (.agg #[.int .i64 n]),.iface 130 (.pointer t),(.agg #[hand 130,.pointer W,.int .u64 150]),(.iface 205 (.agg #[hand 128])),u4,u5,(.pointer (W+2:Nat)),u7,(.bool false),u9,u10,u11,u12,u13,u14,u15,u16,u17,u18,u19,u20,u21,u22,u23,u24,u25,u26,u27,u28,u29,u30,u31,u32,u33,u34,u35,u36,u37,u38,u39,u40,u41,u42,u43,u44,u45,u46,u47,u48,u49,u50,u51,u52,u53,u54,u55,u56,u57,u58,u59,u60,u61],[]⟩ (.code O4::pq)) cs/\(Va W W3 t 3/\W3.heap[W.heap.size+2]?=some (.cells (K3 W) 172 (0,0)))/\w=W3) 60
   (G ((base 95).at ⟨#[.iface 128 (.agg #[.int .i64 n]),.iface 130 (.pointer t),(.agg #[hand 130,.pointer W,.int .u64 150]),(.iface 205 (.agg #[hand 128])),Ze,Ze,Ze,Ze,Ze,Ze,Ze,Ze,Ze,Ze,Ze,Ze,Ze,Ze,Ze,Ze,Ze,Ze,Ze,Ze,Ze,Ze,Ze,Ze,Ze,Ze,Ze,Ze,Ze,Ze,Ze,Ze,Ze,Ze,Ze,Ze,Ze,Ze,Ze,Ze,Ze,Ze,Ze,Ze,Ze,Ze,Ze,Ze,Ze,Ze,Ze,Ze,Ze,Ze,Ze,Ze,Ze,Ze],[]⟩ [.code Iq]) cs) W2:=by
 simp only[hand,pq,O4,ko,Iq,Fz,Km,Wp,po,Gq,ZbQ,Zw];have hA:=hV.cells;unfold hand at hA;obtain⟨q0,q1,q2⟩:=hA;have qp:=hV.c0;have D':=hV.size
 l_c Zn
 l_reg
 have hV3:=hV.alloc (Zj _) (.cells (K3 W) 172);have Xi:(W2.alloc (.cells (K3 W) 172)).heap[W.heap.size+2]?=some (.cells (K3 W) 172 (0,0)):=by
  rw[<-D'];exact Zav
 unfold K3 hand at hV3 Xi
 l_in
 refine zx rfl rfl d! (fun K hK=>?_)
 go_simp
 refine hK _ _ ⟨fun e he=>w!,?_⟩
 clear hK K
 l_op
 l_c Zg
 l_c Zbq
 l_c stepG_loop
 l_c Zbq
 l_c Zn
 l_c Zn
 l_reg
 l_op
 have z0:=alW;have z1:=d163;have z2:=aY;have z3:=a_
 l_in
 refine zx rfl rfl d! (fun K hK=>?_)
 go_simp
 refine hK _ _ ⟨fun e he=>w!,?_⟩
 clear hK K;clear z0 z1 z2 z3
 l_op
 have z0:=alX;have z1:=d216;have z2:=pf;have z3:=pj;have z4:=aZ;have z5:=bd
 l_in
 refine zx rfl rfl d! (fun K hK=>?_)
 go_simp
 refine hK _ _ ⟨fun e he=>w!,?_⟩
 clear hK K;clear z0 z1 z2 z3 z4 z5
 l_c Zg
 l_cond true
 refine ZT (fun w₁ BO=>?_);obtain⟨d,hd⟩:=BO;subst hd
 try simp only[hand,K3,pq,O4,ko,Iq,Fz,Km,Wp,po,Gq,ZbQ,Zw]
 refine⟨_,_,_,_,_,_,_,_,_,_,_,_,_,_,_,_,_,_,_,_,_,_,_,_,_,_,_,_,_,_,_,_,_,_,_,_,_,_,_,_,_,_,_,_,_,_,_,_,_,_,_,_,_,_,_,_,_,rfl,⟨?_,?_⟩,rfl⟩
 .exact hV3.at _
 exact Xi
def aaW {old:Zf}{agE:ZM}{u4 u5 u7 u9 u10 u11 u12 u13 u14 u15 u16 u17 u18 u19 u20 u21 u22 u23 u24 u25 u26 u27 u28 u29 u30 u31 u32 u33 u34 u35 u36 u37 u38 u39 u40 u41 u42 u43 u44 u45 u46 u47 u48 u49 u50 u51 u52 u53 u54 u55 u56 u57 u58 u59 u60 u61:Zf}(hS:∀p:Addr,p.block=0\/p.block=t\/W.heap.size<=p.block->¬Shun (.cell p))(hB:W+4<=B)(ht0:W.cell? t=some old)(CP:W.frozen? t=false)
 (hV:Va W W2 t 3) (EC:W2.heap[W.heap.size+2]?=some (.cells (K3 W) 172 (0,0))):Goes Zc true Zct (DE (EvL Shun B)) (fun g w=>g=G (agE.finish (.bool true)) cs/\∃W4 d,Va W W4 t 4/\w=(W4.setCell t (.int .i64 n)).at d) 60
   (G ((base 95).at ⟨#[.iface 128 (.agg #[.int .i64 n]),.iface 130 (.pointer t),(.agg #[hand 130,.pointer W,.int .u64 150]),(.iface 205 (.agg #[hand 128])),u4,u5,(.pointer (W+2:Nat)),u7,(.bool false),u9,u10,u11,u12,u13,u14,u15,u16,u17,u18,u19,u20,u21,u22,u23,u24,u25,u26,u27,u28,u29,u30,u31,u32,u33,u34,u35,u36,u37,u38,u39,u40,u41,u42,u43,u44,u45,u46,u47,u48,u49,u50,u51,u52,u53,u54,u55,u56,u57,u58,u59,u60,u61],[]⟩ (.code O4::pq)) (agE::cs)) W2:=by
 have cI:t<W:=ZH W _ ht0;have hq:W2.cell? (W+2:Nat)=some (hand 130)/\W2.cell? ⟨W+2,1,none⟩=some (.pointer W)/\W2.cell? ⟨W+2,2,none⟩=some (.int .u64 150):=by
  unfold zy;rw[EC];exact⟨rfl,rfl,rfl⟩
 unfold hand at hq;obtain⟨q0,q1,q2⟩:=hq;have qp:=hV.c0;have D':=hV.size;have Wq:=hV.alloc o! (.cells #[.int .i64 n] 128);have ho:∀b,b<W2.heap.size->(W2.alloc (.cells #[.int .i64 n] 128)).heap[b]?=W2.heap[b]? :=fun b hb=>zD _ _ _ hb;have tX:(W2.alloc (.cells #[.int .i64 n] 128)).cell? (W+3:Nat)=some (.int .i64 n):=by
  rw[<-D',World.cell?_alloc_at _ _ _ _ i!];rfl
 have hts:W2.heap[t]?=W.heap[t]? :=hV.old t cI;have ht4:(W2.alloc (.cells #[.int .i64 n] 128)).cell? t=some old:=(zn (a:=t) ((ho t o!).trans hts)).trans ht0;have hf4:(W2.alloc (.cells #[.int .i64 n] 128)).frozen? t=false:=(ZdX (a:=t) ((ho t o!).trans hts)).trans CP;clear ho hts EC;simp only[hand,pq,O4,ko,Iq,Fz,Km,Wp,po,Gq,ZbQ,Zw]
 l_c Zn
 l_reg
 l_in
 refine zx rfl rfl d! (fun K hK=>?_)
 go_simp
 refine hK _ _ ⟨fun e he=>w!,?_⟩
 clear hK K;have zi:=dT W t;have zj:=dY W t;have z0:=alY;have z1:=d164
 l_in
 refine zx rfl rfl d! (fun K hK=>?_)
 go_simp
 refine hK _ _ ⟨fun e he=>w!,?_⟩
 clear hK K;clear z0 z1;clear zi zj
 l_op
 have z0:=agy;have z1:=d146;have z2:=dS;have z3:=dV
 l_in
 refine zx rfl rfl d! (fun K hK=>?_)
 go_simp
 refine hK _ _ ⟨fun e he=>w!,?_⟩
 clear hK K;clear z0 z1 z2 z3;simp only[alloc_at,at_at];generalize Zaz W2 _=W4 at Wq tX ht4 hf4⊢;have zi:=fun d=>oY t (W+3:Nat) n old (W4.at d) tX ht4 hf4;have zj:=fun d es=>oZ t (W+3:Nat) n old (W4.at d) es tX ht4 hf4;have z0:=alZ;have z1:=d165
 l_in
 refine zx rfl rfl d! (fun K hK=>?_)
 go_simp
 refine hK _ _ ⟨fun e he=>w!,?_⟩
 clear hK K;clear z0 z1;clear zi zj
 l_c Zg
 l_c Zn
 l_reg
 l_op
 l_c Zg
 l_c z8
 refine Goes.step rfl (fun w₁ BO=>?_);obtain⟨dd,Pv⟩:=BO;subst Pv;rw[stepG_leave (v:=.bool true) (fn:=ZbQ) rfl rfl Tryz.func95 (results_tmp Tryz.results95 _ _ _) (ZdW Tryz.results95 _ _)];simp only[goes_go];refine⟨by u_nil,?_⟩;refine ZT (fun w₁ BO=>?_);obtain⟨d,hd⟩:=BO;subst hd;exact⟨rfl,W4,_,Wq,rfl⟩
def aaX {m:Nat}:
  Goes Zc true Zct (DE (EvL Shun B)) (fun g w=>g=G (f'.finish (.bool true)) cs/\∃d,w=W.at d) 20
   (G ((pv m n t v2 v3 v8 v9 v10 v11 QC QD QE QF QG QH QI QK v20 QL QM QN QO QP QQ QR QS QT v30 QU QV QW QX QY QZ Q0 [4,5]).finish (.bool true)) (f'::cs)) W:=by
 simp only[hand,pv,EW,EV,Hz,Hy,Hx,Jj,Ji,Jh,FX,Fz,Km,Gq,Dv,YV,Zw];rw[Frame.finish_at]
 walk_nrm
 l_op
 l_c Zg
 l_c z8
 refine Goes.step rfl (fun w₁ BO=>?_);obtain⟨dd,Pv⟩:=BO;subst Pv;rw[stepG_leave (v:=.bool true) (fn:=YV) rfl rfl ZdY (results_tmp ZbJ _ _ _) (ZdW ZbJ _ _)];simp only[goes_go];refine⟨by u_nil,?_⟩;refine ZT (fun w₁ BO=>?_);obtain⟨d,hd⟩:=BO;subst hd;exact⟨rfl,d,rfl⟩
end Go.Proofs.Fit
namespace Go.Proofs.Fit
open Go Go.Conc Go.FA Go.RowKit
section
variable {Shun:Loc->Prop}{B:Nat}{W:Zb}{n:Int}{t:Nat}{old:Zf}{f':ZM}{cs:List ZM}{gs:Array Zi}{tr:YZ}{q:Nat->Nat}{sl:Option (Nat×Nat)}
def dZ {tv:Zf}(hX:Lone Zc Shun B (AU (Zq Zc 65 #[.nilIface,tv] .normal) (f'::cs)) gs tr q):
  ∃N gs' w' I7 t' q',ZaE Zc N (Yj gs W sl) tr=(.next (Yj gs' w' I7),t')/\Lone Zc Shun B (AU (f'.finish (.bool false)) cs) gs' t' q'/\∃d,w'=W.at d:=by
 obtain⟨N,gs',a',w',I7,t',q',h1,⟨rfl,d,rfl⟩,h3⟩:=Cf (sl:=sl) (fun _ _ _ h=>h) hX (bl (Shun:=Shun) (B:=B) (W:=W));exact⟨N,gs',_,I7,t',q',h1,h3,d,rfl⟩
def d_ (hX:Lone Zc Shun B (AU (Zq Zc 65 #[.iface 128 (.agg #[.int .i64 n]),.iface 130 (.pointer t)] .normal) (f'::cs)) gs tr q)
 (hS:∀p:Addr,p.block=0\/p.block=t\/W.heap.size<=p.block->¬Shun (.cell p)) (hB:W+4<=B) (hg:W.cell? ⟨0,0,none⟩=some (.iface 205 (.agg #[hand 124]))) (ht0:W.cell? t=some old) (CP:W.frozen? t=false):
  ∃N gs' w' I7 t' q',ZaE Zc N (Yj gs W sl) tr=(.next (Yj gs' w' I7),t')/\Lone Zc Shun B (AU (f'.finish (.bool true)) cs) gs' t' q'/\∃W4 d,Va W W4 t 4/\w'=(W4.setCell t (.int .i64 n)).at d:=by
 obtain⟨N0,gs0,a0,w0,sl0,t0,q0,r0,h0,X0⟩:=Cf (sl:=sl) (fun _ _ _ h=>h) hX (am0 (Shun:=Shun) (B:=B) (W:=W) (n:=n) (t:=t) hS hB);obtain⟨_,_,_,_,_,_,_,_,_,_,_,_,_,_,_,_,_,_,_,_,_,_,_,_,_,_,_,_,_,_,_,_,_,_,_,_,_,_,V0,rfl,tY,rfl⟩:=h0;obtain⟨N1,gs1,a1,w1,sl1,t1,q1,r1,h1,X1⟩:=Cf (sl:=sl0) (fun _ _ _ h=>h) X0 (am1 (Shun:=Shun) (B:=B) (W:=W) (n:=n) (t:=t) hS hB tY);obtain⟨_,_,_,_,_,_,_,_,_,_,_,_,_,_,_,_,_,_,_,_,_,_,_,_,_,_,_,_,_,_,_,_,_,_,_,_,_,V1,rfl,hV1,rfl⟩:=h1;obtain⟨N2,gs2,a2,w2,sl2,t2,q2,r2,h2,X2⟩:=Cf (sl:=sl1) (fun _ _ _ h=>h) X1 (am2 (Shun:=Shun) (B:=B) (W:=W) (n:=n) (t:=t) hS hB hV1);obtain⟨_,_,_,_,_,_,_,_,_,_,_,_,_,_,_,_,_,_,_,_,_,_,_,_,_,_,_,_,_,_,_,_,_,_,_,_,_,V2,rfl,gF,rfl⟩:=h2;obtain⟨N3,gs3,a3,w3,sl3,t3,q3,r3,h3,X3⟩:=Cf (sl:=sl2) (fun _ _ _ h=>h) X2 (am3 (Shun:=Shun) (B:=B) (W:=W) (n:=n) (t:=t) hS hB gF);obtain⟨_,_,_,_,_,_,_,_,_,_,_,_,_,_,_,_,_,_,_,_,_,_,_,_,_,_,_,_,_,_,_,_,_,_,_,_,V3,rfl,hV3,rfl⟩:=h3;obtain⟨N4,gs4,a4,w4,sl4,t4,q4,r4,h4,X4⟩:=Cf (sl:=sl3) (fun _ _ _ h=>h) X3 (agA (Shun:=Shun) (B:=B) (W:=W) (n:=n) (t:=t) hS hB hg hV3);obtain⟨_,_,_,_,_,_,_,_,_,_,_,_,_,_,_,_,_,_,_,_,_,_,_,_,_,_,_,_,_,_,_,_,_,_,_,_,V4,rfl,Wq,rfl⟩:=h4;obtain⟨N5,gs5,a5,w5,sl5,t5,q5,r5,h5,X5⟩:=Cf (sl:=sl4) (fun _ _ _ h=>h) X4 (agC (Shun:=Shun) (B:=B) (W:=W) (n:=n) (t:=t) hS hB Wq);obtain⟨_,_,_,_,_,_,_,_,_,_,_,_,_,_,_,_,_,_,_,_,_,_,_,_,_,_,_,_,_,_,_,_,V5,rfl,hV5,rfl⟩:=h5;obtain⟨N6,gs6,a6,w6,sl6,t6,q6,r6,h6,X6⟩:=Cf (sl:=sl5) (fun _ _ _ h=>h) X5 (agD (Shun:=Shun) (B:=B) (W:=W) (n:=n) (t:=t) hS hB hV5);obtain⟨_,_,_,_,_,_,_,_,_,_,_,_,_,_,_,_,_,_,_,_,_,_,_,_,_,_,_,_,_,_,_,_,_,_,_,_,_,_,_,_,_,_,_,_,_,_,_,_,_,_,_,_,_,_,_,_,V6,rfl,⟨hV6,Xj⟩,rfl⟩:=h6;obtain⟨N7,gs7,a7,w7,sl7,t7,q7,r7,⟨rfl,W4,d,ED,rfl⟩,X7⟩:=Cf (sl:=sl6) (fun _ _ _ h=>h) X6 (aaW (Shun:=Shun) (B:=B) (W:=W) (n:=n) (t:=t) hS hB ht0 CP hV6 Xj);obtain⟨N8,gs8,a8,w8,sl8,t8,q8,r8,⟨rfl,d8,rfl⟩,X8⟩:=Cf (sl:=sl7) (fun _ _ _ h=>h) X7 (aaX (Shun:=Shun) (B:=B));have By:∀ {N M:Nat} {x y z:Machine} {t Ea Ic:YZ},ZaE Zc N x t=(.next y,Ea)->ZaE Zc M y Ea=(.next z,Ic)->ZaE Zc (N+M) x t=(.next z,Ic):=fun h k=>by rw[Go.FA.runNT_add _ _ _ _ _ _ h];exact k
 exact⟨_,gs8,_,sl8,t8,q8,By r0 (By r1 (By r2 (By r3 (By r4 (By r5 (By r6 (By r7 r8))))))),X8,W4,d8,ED,rfl⟩
end
def agG (t:Array Zf)(h:t.size=2):∃a0 a1,t= #[a0,a1]:=by
 obtain⟨l⟩:=t
 match l,h with
 | [a0,a1],_=>exact⟨a0,a1,rfl⟩
section
variable {B:H9}{fn:Func}{Post:Zf->Zb->Prop}{ρ:Ren}{f f':ZM}{cs cs':List ZM}{w:Zb}
variable {P:Zo}
variable {a:Array Zf}
def agH (hl:B.lcs=[C5 Lp])(Kg:B.K.seg=false)(hb:C_ Post)(E:Env Lp P ρ)(hS:Gh Lp P B ρ (f::cs) (f'::cs'))(hw:∃w',WR ρ w w')(ha:a.size=2)(hM:Cv Lp B true (Ez Lp B fn Post PX) (AU (Zq Lp 65 a .normal) (f::cs)) w):
  ∃err aR,a= #[err,aR]/\wW w w err aR:=by
 obtain⟨e,t,rfl⟩:=agG a ha;have hc:=OZ e t (tp w fun _ _=>0) (by show((((zJ 1 0 3).cut 0:Nat):Int)==1)=true;decide);obtain⟨w₂,y,Ss,lY,jH⟩:=Sr hl Kg hb E hS hw hM hc;rcases Ss with⟨gc,la,ln,lc,sv,b,rows,fit,y',e',h⟩|⟨err,aR,b,y',e',h⟩
 .exfalso
  have:=congrArg Array.size (NQ e');simp at this
 have e4:=congrArg ZbD (NQ e');obtain⟨e1,e5⟩:=zL e4;obtain⟨e2,e6⟩:=zL e5;have e8:=Su (zL e6).1;have e9:(tp w fun _ _=>0).heap.size=w.heap.size:=rfl;rw[e9]at e8;subst e1 e2 e8;obtain⟨h1,tt,n,h2,h3,h4,h5,h6⟩:=h;exact⟨_,_,rfl,h1,tt,n,h2,h3,jH _ _ _ _ h3 h4,h5,lY _ _ h5 h6⟩
def ef (hl:B.lcs=[C5 Lp])(hb:C_ Post)(Kb:B.lcs.length<(f::cs).length){aR:Zf}(hM:Cv Lp B true (Ez Lp B fn Post PX) (AU (Zq Lp 65 #[.nilIface,aR] .normal) (f::cs)) w):
  ∃w₁,Qb6 w w₁/\CI Lp B true (AU (Zq Lp 65 #[.nilIface,aR] .normal) (f::cs)) w (AU (f.finish (.bool false)) cs) w₁:=by
 have K:Dg Lp B true (Ez Lp B fn Post PX):=I5 hl hb PX.blind;have G:=KO (P':=Lp) (fn:=fn) (Post:=Post) (PostX:=PX) hl;have hc:=gO aR (tp w fun _ _=>1) (by show((((zJ 1 0 3).cut 1:Nat):Int)==1)=false;decide);have OJ:Calls Lp 65 #[.nilIface,aR] (tp w fun _ _=>1) (gr (fun v w₁=>v=.bool false/\YH w (tp w fun _ _=>1) w₁) fun _ _=>False):=hc.mono fun e w' ⟨h1,h2⟩=>by rw[h1];exact⟨rfl,h2⟩
 obtain⟨v,w₁,⟨rfl,h1⟩,hp⟩:=Es G Lp.func91 rfl Kb (hM.Ds K.blind _) OJ;exact⟨tp w₁ w.tape,⟨h1.os,rfl,h1.output,h1.size,h1.block⟩,(hp w.tape).Ds⟩
variable {n:Int}
variable {t k b c i:Nat}
def eh (hl:B.lcs=[C5 Lp])(hb:C_ Post)(Kb:B.lcs.length<(f::cs).length){m:Int}(ht:w.heap[t]?=some (.cells #[.int .i64 m] 128 (0,0)))
 (hM:Cv Lp B true (Ez Lp B fn Post PX) (AU (Zq Lp 65 #[.iface 128 (.agg #[.int .i64 n]),.iface 130 (.pointer t)] .normal) (f::cs)) w):
  ∃w₁,YH w (w.setCell t (.int .i64 n)) w₁/\CI Lp B true (AU (Zq Lp 65 #[.iface 128 (.agg #[.int .i64 n]),.iface 130 (.pointer t)] .normal) (f::cs)) w (AU (f.finish (.bool true)) cs) w₁:=by
 have K:Dg Lp B true (Ez Lp B fn Post PX):=I5 hl hb PX.blind;have G:=KO (P':=Lp) (fn:=fn) (Post:=Post) (PostX:=PX) hl;have hc:=gP n m t (tp w fun _ _=>1) (by show((((zJ 1 0 3).cut 1:Nat):Int)==1)=false;decide) ht;have OJ:Calls Lp 65 #[.iface 128 (.agg #[.int .i64 n]),.iface 130 (.pointer t)] (tp w fun _ _=>1) (gr (fun v w₁=>v=.bool true/\YH w ((tp w fun _ _=>1).setCell t (.int .i64 n)) w₁) fun _ _=>False):=hc.mono fun e w' ⟨h1,h2⟩=>by rw[h1];exact⟨rfl,h2⟩
 obtain⟨v,w₁,⟨rfl,h1⟩,hp⟩:=Es G Lp.func91 rfl Kb (hM.Ds K.blind _) OJ;exact⟨tp w₁ w.tape,⟨h1.os,rfl,h1.output,h1.size,h1.block⟩,(hp w.tape).Ds⟩
end
def SD:ND.low=1:=k!
section
variable {B:H9}{fn:Func}{Post:Zf->Zb->Prop}{J:Nat->Obj->Prop}{ρ₀ ρ:Ren}{n₀ n₀':Nat}{Lk S:Nat->Prop}{f f':ZM}{cs cs':List ZM}{a a':Array Zf}{w w':Zb}{gs:Array Zi}{sl:Option (Nat×Nat)}{t:YZ}{q:Nat->Nat}{Shun:Loc->Prop}
variable {σ τ:Ren}
variable {v2 v3 v7 v8 v9 v10 v11 QC QD QE QF QG QH QI QK v20 QL QM QN QO QP QQ QR QS QT v30 QU QV QW QX QY QZ VX VY VZ V9 Q0 v x:Zf}
def VR.SE {ty:Zs}(h:VR σ (.iface ty v) x):∃y,x=.iface ty y/\VR σ v y:=by
 cases h with
 |iface _ h=>exact⟨_,rfl,h⟩
variable {n:Int}
def VR.px {k:IntKind}(h:VR σ (.int k n) x):x=.int k n:=by
 cases h with
 |int=>rfl
def VR.ib (h:VR σ (.agg #[v]) x):∃y,x=.agg #[y]/\VR σ v y:=by
 cases h with
 | @agg _ c h1 h2=>
  match c,h1 with
  |⟨[y]⟩,_=>exact⟨y,rfl,h2 0 _ _ rfl rfl⟩
variable {p:Addr}
def VR.py (h:VR σ (.pointer (some p)) x):∃p',x=.pointer (some p')/\AR σ p p':=by
 cases h with
 | @pointer _ q h=>
  cases q with
  |none=>exact h.elim
  |some q=>exact⟨q,rfl,h⟩
def aaY (hl:B.lcs=[C5 Lp])(Kg:B.K.seg=false)(oX:C_ Post)(ha:a.size=2)(xf:BS ρ a a')(Jw:ρ.ok=ND)(hz:ρ 0=some 0)(hJ:∀b o,J b o->Quiet o)(hS:Gh Lp Zc B ρ (f::cs) (f'::cs'))(BL:f.todo≠ [])
 (hM:Cv Lp B true (Ez Lp B fn Post PX) (AU (Zq Lp 65 a .normal) (f::cs)) w)
 (H:Nr Lp Zc B J ρ₀ n₀ n₀' Lk S ρ (AU (Zq Lp 65 a .normal) (f::cs)) w (AU (Zq Zc 65 a' .normal) (f'::cs')) w') (X:Ctx Zc S (AU (Zq Zc 65 a' .normal) (f'::cs')) w' gs t q Shun):
  Sy Lp Zc B J ρ₀ n₀ n₀' Lk S (AU (Zq Lp 65 a .normal) (f::cs)) w w' gs sl t:=by
 obtain⟨err,aR,rfl,amU,tt,m,rfl,cI,htb,h0,hg⟩:=agH hl Kg oX H.env hS ⟨w',H.world⟩ ha hM;obtain⟨y0,y1,rfl⟩:=agG a' (xf.1.symm.trans rfl);have v0:VR ρ err y0:=xf.2 0 _ _ rfl rfl;have v1:VR ρ (.iface 130 (.pointer tt)) y1:=xf.2 1 _ _ rfl rfl;have Kb:B.lcs.length<(f::cs).length:=hS.deep;obtain⟨y,rfl,v2⟩:=VR.SE v1;obtain⟨⟨t',o',s'⟩,rfl,ht1,ht2,ht3⟩:=VR.py v2;dsimp only at ht1 ht2 ht3;subst ht2 ht3;rcases amU with rfl|⟨n,rfl⟩
 .have e:y0=.nilIface:=by cases v0;rfl
  subst e;obtain⟨N,CQ,w₁,CU,Ea,GJ,hr,hX,d,rfl⟩:=dZ (sl:=sl) (W:=w') (B:=w') ⟨X.main,X.old,X.past⟩;obtain⟨wL,hB,hP⟩:=ef hl oX Kb hM;exact ML (Shun₁:=Shun) H hS BL hr hP hB.block hB.os hB.size hX (fun b _=>rfl) (Zj _) ⟨rfl,rfl,rfl⟩ X.XU (Ren.le_refl ρ) (fun b c h=>.inl h) (fun b hb=>(X.held b hb).2) (.bool false)
 obtain⟨z,rfl,v3⟩:=VR.SE v0;obtain⟨z,rfl,v4⟩:=VR.ib v3;obtain rfl:=VR.px v4;have Jc:ρ 1=some 1:=by have:=ρ.base;rw[Jw,SD]at this;exact this
 have Az:∀b c,ρ b=some c->b<w.heap.size/\c<w':=fun b c h=>H.world.lt h;obtain⟨o,o',p1,p2,p3⟩:=H.world.obj tt t' ht1;rw[htb]at p1;cases p1;have ab0:∃fz,o'=.cells #[.int .i64 m] 128 fz/\fz.2<=fz.1:=by
  cases p3 with
  | @cells _ c' e f1 f2 hc hf=>
   refine⟨f2,?_,?_⟩
   .match c',hc with
    |⟨[y]⟩,hc=>
     have:VR ρ (.int .i64 m) y:=hc.2 0 _ _ rfl rfl;rw[VR.px this]
   .rcases hf with rfl|hf|⟨h1,h2⟩
    .exact Zj _
    .exact hf
    dsimp only at h2;omega
 obtain⟨fz,rfl,yB⟩:=ab0;have hcell:w'.cell? t'=some (.int .i64 m):=by unfold zy;rw[p2];rfl
 have amV:w'.frozen? t'=false:=by unfold Yo;rw[p2];simp;omega
 have GM:w'.cell? ⟨0,0,none⟩=some (.iface 205 (.agg #[hand 124])):=by
  obtain⟨x,x1,x2⟩:=WR.gY H.world hz hg;obtain⟨y,rfl,x3⟩:=VR.SE x2;obtain⟨y,rfl,x4⟩:=VR.ib x3;obtain⟨⟨b1,b2,b3⟩,rfl,x5,x6,x7⟩:=VR.py x4;dsimp only at x5 x6 x7;rw[Jc]at x5;cases x5;subst x6 x7;exact x1
 have agI:S t':=(H.holds t').2 ⟨tt,ht1⟩;have h0S:S 0:=(H.holds 0).2 ⟨0,hz⟩;have amW:=(Az _ _ ht1).2;have Sv:∀p:Addr,w'.heap.size<=p.block->¬Shun (.cell p):=fun p hp hs=>by
  obtain⟨a,e,h⟩:=X.XU _ hs;cases e;omega
 obtain⟨N,CQ,w₁,CU,Ea,GJ,hr,hX,W4,d,hV,rfl⟩:=d_ (sl:=sl) (W:=w') (B:=w'+4) (old:=.int .i64 m) ⟨X.main,X.old,X.past.mono o!⟩ (fun p hp=>by
  rcases hp with hp|hp|hp
  .exact(X.held 0 h0S).2 p hp
  .exact(X.held t' agI).2 p hp
  exact Sv p hp) (Zj _) GM hcell amV
 obtain⟨wL,hB,hP⟩:=eh hl oX Kb htb hM;have D':((W4.setCell t' (.int .i64 n)).at d).heap.size=w'.heap.size+4:=by
  show(W4.setCell _ _).heap.size=_;rw[<-hV.size];simp[Z8]
 have hsL:wL>=w.heap.size:=by
  have:=hB.size;simpa[Z8]using this
 have Pn:∀c,c<w'.heap.size->c≠t'->((W4.setCell t' (.int .i64 n)).at d).heap[c]?=w'.heap[c]? :=fun c h1 h2=>by
  show(W4.setCell _ _).heap[c]?=_;rw[Y4 _ _ _ _ h2,hV.old c h1]
 have Ka:∀b,b<w.heap.size->b≠tt->wL.heap[b]?=w.heap[b]? :=fun b h1 h2=>by
  rw[hB.block b h1,Y4 _ _ _ _ h2]
 have mW:((W4.setCell t' (.int .i64 n)).at d).heap[t']?=some (.cells #[.int .i64 n] 128 fz):=by
  show(W4.setCell _ _).heap[t']?=_;unfold Z8;simp only[Y7,if_pos];rw[hV.old t' amW,p2]
  rfl
 have amX:wL.heap[tt]?=some (.cells #[.int .i64 n] 128 (0,0)):=by
  rw[hB.block tt cI];unfold Z8;simp only[Y7,if_pos];rw[htb]
  rfl
 have Qa:∀b,KI J w b->b≠tt:=by
  rintro b (⟨ty,k,h1,h2⟩|⟨o,h1,h2⟩) rfl
  .unfold Yn at h1
   rw[htb]at h1;cases h1;have:=h2 0 i!;unfold Yo at this;rw[htb]at this;simp at this
  rw[htb]at h2;cases h2;cases hJ _ _ h1
 refine⟨N,CQ,CU,Ea,GJ,Shun,S,ρ,AU (f.finish (.bool true)) cs,wL,AU (f'.finish (.bool true)) cs',_,hr,hP,?_,?_,?_⟩
 .refine⟨H.env,H.le,H.fresh,⟨Zr H.size.1 hsL,by rw[D'];exact Zr H.size.2 o!⟩,.inl ⟨_,_,_,_,rfl,rfl,hS.top fun K h=>h.finish (.bool true) BL⟩,⟨fun b c Kf=>?_,?_⟩,fun c hc=>?_,H.holds⟩
  .by_cases hbt:b=tt
   .subst hbt
    rw[ht1]at Kf;cases Kf;exact⟨_,_,amX,mW,.cells 128 (Bz.single (.int _ _)) (.inr (.inl yB))⟩
   have hct:c≠t':=fun e=>hbt (ρ.inj _ _ _ Kf (e▸ht1));obtain⟨o,o',h1,h2,h3⟩:=H.world.obj b c Kf;exact⟨o,o',(Ka b (Az b c Kf).1 hbt).trans h1,(Pn c (Az b c Kf).2 hct).trans h2,h3⟩
  .rw[hB.os]
   exact hV.os.trans H.world.os
  obtain⟨b,h1,h2⟩:=H.lock c hc;exact⟨b,h1,KI.same h2 (Ka b (Az b c h1).1 (Qa b h2))⟩
 .exact⟨hX.main,hX.old,by rw[D'];exact hX.past,fun c hc=>⟨by rw[D'];have:=(X.held c hc).1;omega,(X.held c hc).2⟩,fun l hl=>by obtain⟨a,e,h⟩:=X.XU l hl;exact⟨a,e,by rw[D'];omega⟩⟩
 refine⟨by rw[D'];omega,fun b hb hx=>Pn b hb fun e=>?_,hV.os,hV.tape,hV.output,fun c hc=>.inl hc⟩;subst e;rcases hx with hx|hx
 .exact hx agI
 obtain⟨b,h1,h2⟩:=H.lock _ hx;exact Qa b h2 (ρ.inj _ _ _ h1 ht1)
end
def TZ (i:Nat):Bool:=Wa i||i==87||i==88
def ab1 (i:Nat):Bool:=aE i||i==88
def xl:Pk:= {val:=ab1,Nc:=TZ,dir:=fun f _=>TZ f,low:=Tryz.prog.globals.size}
def SH (f:Option Func):Bool:=match f with
 |none=>false
 |some fn=> !(fn.name== "runtime.NumGoroutine")&&match fn.body with
  |none=>false
  |some c=>(!fn.norace)&&Bh Lp xl BU false c
def agJ:(Yr 171).all (fun f=> !TZ f||SH Lp.funcs[f]?)=true:=k!
variable {B f t k b c i:Nat}
def tZ (h:TZ f=true):f<171:=by
 unfold TZ at h;simp only[ZaK,beq_iff_eq]at h;rcases h with(h|h)|h
 .exact dF h
 .omega
 omega
def pz (h:ab1 f=true):TZ f=true:=by
 unfold ab1 at h;simp only[ZaK,beq_iff_eq]at h;unfold TZ;rcases h with h|h
 .rw[(NF h).1];rfl
 subst h;rfl
def ab4 (h:TZ f=true):∃fn code,Lp.funcs[f]?=some fn/\fn.body=some code/\Bh Lp xl BU false code=true/\(fn.name== "runtime.NumGoroutine")=false/\fn.norace=false:=by
 have:=Zdm.1 agJ f (List.mem_range.2 (tZ h));rw[h]at this;have hc:SH Lp.funcs[f]?=true:=by simpa using this
 unfold SH at hc;cases e:Lp.funcs[f]? with
 |none=>rw[e]at hc;cases hc
 |some fn=>
  rw[e]at hc;cases eb:fn.body with
  |none=>simp[eb]at hc
  |some c=>
   simp only[eb,ZF,ZcF]at hc;exact⟨fn,c,rfl,eb,hc.2.2,hc.1,hc.2.1⟩
def t_:OB Lp Lp xl (fun _=>false) where
 val f h:=⟨pz h,rfl⟩
 dir f n h:=.inl ⟨h,rfl⟩
 met f n _ hs:=by cases hs
 has f h _:=by
  obtain⟨fn,code,h1,h2,h3,h4,h5⟩:=ab4 h;exact⟨fn,code,h1,h1,h2,h3,h4,h5⟩
def ei:Twins Lp Lp:=ae rfl wK wM
variable {σ ρ τ:Ren}
def amZ (h1:ρ.ok=xl)(h2:ρ.good=Bh Lp xl BU false)(h3:ρ.sp=fun _=>false):Env Lp Lp ρ:=
 ⟨by unfold Base;rw[h1];rfl,by rw[h1];exact h2,by rw[h1,h3];exact t_⟩
end Go.Proofs.Fit
namespace Go.FA
open Go Go.Conc
variable {σ ρ τ:Ren}
def UZ {b:Array Zf}(h:∀x∈b,∃v,VR τ v x):∃a,BS τ a b:=KM fun i x hx=>h x (zY hx)
def VR.total (τ:Ren)(x:Zf):∃v,VR τ v x:=by
 have key:∀(n:Nat) (x:Zf),SizeOf.sizeOf x<n->∃v,VR τ v x:=by
  intro n
  induction n with
  |zero=>intro x hx;omega
  |succ n ih=>
   intro x hx;cases x with
   |bool b=>exact⟨_,.bool b⟩
   |int k n=>exact⟨_,.int k n⟩
   |float k b=>exact⟨_,.Ew rfl⟩
   |complex k a b=>exact⟨_,.Ew rfl⟩
   |string s=>exact⟨_,.string s⟩
   |pointer a=>cases a with
    |none=>exact⟨_,.pointer (a:=none) trivial⟩
    |some a=>exact⟨_,.Ew rfl⟩
   |slice a n c=>cases a with
    |none=>exact⟨_,.slice (a:=none) n c trivial⟩
    |some a=>exact⟨_,.Ew rfl⟩
   |map r=>cases r with
    |none=>exact⟨_,.map (r:=none) trivial⟩
    |some a=>exact⟨_,.Ew rfl⟩
   |chan r=>cases r with
    |none=>exact⟨_,.chan (r:=none) trivial⟩
    |some a=>exact⟨_,.Ew rfl⟩
   |func f a c=>cases f with
    |method m=>exact⟨_,.meth m a c⟩
    |_=>exact⟨_,.Ew rfl⟩
   |nilFunc=>exact⟨_,.nilFunc⟩
   |iface t v=>exact⟨_,.Ew rfl⟩
   |nilIface=>exact⟨_,.nilIface⟩
   |agg c=>
    obtain⟨a,ha⟩:=UZ (τ:=τ) (b:=c) fun x n6=>ih x (by have h1:=Zds n6;simp at hx;omega);exact⟨_,VR.P6 ha⟩
   |tuple c=>
    obtain⟨a,ha⟩:=UZ (τ:=τ) (b:=c) fun x n6=>ih x (by have h1:=Zds n6;simp at hx;omega);exact⟨_,VR.tuple' ha⟩
 exact key _ x (Nat.lt_succ_self _)
def OR.JN (τ:Ren)(c:Array Zf)(e:Zs)(f:Nat×Nat):OR τ (Dm τ (.cells c e f)) (.cells c e f):=by
 refine .cells e ⟨i!,fun i v y h1 h2=>?_⟩ (Qz _ _);rw[zF,h2]at h1;cases h1;exact OM (VR.total τ y)
end Go.FA
namespace Go.Proofs.Fit
open Go Go.Conc Go.FA Go.RowKit
def ic:ND.low=1:=SD
def Dc (W:Zb)(b:Nat):Prop:=b=ND.low\/∃c e f,W.heap[b]?=some (.cells c e f)
def Qk (W:Zb):Ren:=Ren.VQ (Dc W) ND (Bh Zc ND BU false) Xh (.inl rfl)
def BD (W:Zb):Zb:=snap (Qk W) W
def ej (W:Zb):(BD W).heap.size=W.heap.size:=Lr _ _
variable {W W2 w:Zb}
variable {B f t k b c i:Nat}
def Ir:Qk W b=some c↔Dc W b/\b=c:=Gj
def pA {c:Array Zf}{e:Zs}{f:Nat×Nat}(h:W.heap[b]?=some (.cells c e f)):Qk W b=some b:=Ir.2 ⟨.inr ⟨_,_,_,h⟩,rfl⟩
def ub (W:Zb):Qk W ND.low=some ND.low:=Ir.2 ⟨.inl rfl,rfl⟩
variable {p:Addr}
variable {v2 v3 v7 v8 v9 v10 v11 QC QD QE QF QG QH QI QK v20 QL QM QN QO QP QQ QR QS QT v30 QU QV QW QX QY QZ VX VY VZ V9 Q0 v x:Zf}
def SJ (h:W.cell? p=some v)(hv:VR (Qk W) v v):(BD W).cell? p=some v:=I9 h hv
variable {o:Obj}
def U0 (h:W.heap[ND.low]?=some o)(hb:∃c e f,o=.cells c e f):WR (Qk W) (BD W) W:=by
 refine nW fun c hc=>?_;rcases hc with rfl|⟨cs,e,f,hc⟩
 .obtain⟨c,e,f,rfl⟩:=hb
  exact⟨_,h,OR.JN _ _ _ _⟩
 exact⟨_,hc,OR.JN _ _ _ _⟩
def ud (W:Zb):Ren:=(Qk W).with xl (Bh Lp xl BU false) (fun _=>false) rfl
def agK (h:ND f=true):xl f=true:=by
 show(aE f||f==88)=true;have h':aE f=true:=h;rw[h'];rfl
def bm (W:Zb):(Qk W).sub (ud W):=R5 fun _ h=>agK h
variable {σ ρ τ:Ren}
def OR.pB (s:ρ.sub τ){x:Obj}(h:OR ρ o x)(hq:(∃c e f,o=.cells c e f)\/o=.coro none):OR τ o x:=by
 rcases hq with⟨c,e,f,rfl⟩|rfl
 .cases h with
  |cells e h hf=>exact .cells e (BS.sub s h) hf
 .cases h with
  |junk h=>exact .junk h
def ek (h:W.heap[ND.low]?=some o)(hb:∃c e f,o=.cells c e f):WR (ud W) (BD W) W:=by
 refine⟨fun b c Kf=>?_,rfl⟩;obtain⟨hD,rfl⟩:=Ir.1 (show Qk W b=some c from Kf);have hW:=U0 h hb;obtain⟨x,y,h1,h2,h3⟩:=hW.obj b b (Ir.2 ⟨hD,rfl⟩);refine⟨x,y,h1,h2,OR.pB (bm W) h3 ?_⟩;have sF:(W.heap[b]?).map (Dm (Qk W))=some x:=(Nt _ _ _).symm.trans h1;rcases hD with rfl|⟨cs,e,f,hc⟩
 .obtain⟨c,e,f,rfl⟩:=hb
  rw[h,Zdh]at sF;exact .inl ⟨_,_,_,(ZW sF).symm⟩
 rw[hc]at sF;exact .inl ⟨_,_,_,(ZW sF).symm⟩
def eo (h:W.heap[ND.low]?=some o)(hb:∃c e f,o=.cells c e f)(hc:Dc W c):KI (fun b q=>Quiet q/\(BD W).heap[b]?=some q) (BD W) c:=by
 have key:∀x,W.heap[c]?=some x->OR (Qk W) (Dm (Qk W) x) x->KI (fun b q=>Quiet q/\(BD W).heap[b]?=some q) (BD W) c:=fun x h1 h2=>(UE h1 h2).imp id fun⟨q,h3,h4⟩=>⟨q,⟨h3,h4⟩,h4⟩;rcases hc with rfl|⟨cs,e,f,hc⟩
 .obtain⟨c,e,f,rfl⟩:=hb
  exact key _ h (OR.JN _ _ _ _)
 exact key _ hc (OR.JN _ _ _ _)
def Cv.imp {P':Zo}{B:H9}{m:Bool}{Stop xm:Zi->Zb->Prop}(h:∀g w,Stop g w->xm g w){g:Zi}(hM:Cv P' B m Stop g w):Cv P' B m xm g w:=by
 induction hM with
 |stop x=>exact .stop (h _ _ x)
 |step hn hr AH w₁ es hs _ ih=>exact .step hn hr AH w₁ es hs ih
def KT (f:ZaQ):Cut:=⟨false,BU,[],[],f,true,fun _=>Ze,0,.normal⟩
def BT (f:ZaQ):H9:=⟨KT f,[C5 Lp],[],true⟩
def ue (f:ZaQ):(BT f).LM:=⟨fun _=>⟨rfl,rfl,rfl⟩,by simp[BT],fun h=>h!,fun _=>⟨rfl,rfl,rfl⟩⟩
variable {P:Zo}
variable {a:Array Zf}
def U1 (E:Env Lp P ρ){f:ZaQ}(hf:ρ.ok.Nc f=true)(Jv:ρ.sp f=false){a':Array Zf}(ha:BS ρ a a'):Hp Lp P (KT f) ρ (Zq Lp f a .normal) (Zq P f a' .normal):=by
 obtain⟨fn,code,h1,h2,h3,h4,h5,h6⟩:=E.Nc.has f hf Jv;unfold Zq;rw[h1,h2];refine⟨rfl,fun _=>⟨hf,Jv⟩,⟨D9 h1 h6,D9 h2 h6⟩,?_,⟨[.code code],?_,?_⟩,⟨[],rfl,.nil⟩,.run,⟨rfl,.inl rfl⟩,trivial,fun h=>h!,fun _=>⟨rfl,rfl⟩,fun h=>h!⟩
 .rw[ha.1];exact Pu.of (ha.append (Bz.replicate _ (VR.undef ρ)))
 .simp[h3,KT]
 simp only[Option.bind_some,h3,Zw];exact .cons (.code h4) .nil
def Wr (w:Zb):Ending->Zb->Prop:=fun e w'=>Qb6 w w'/\(e=.returned (.bool true)\/∃x,e=.panicked x/\PX x w')
def QJ (w:Zb)(b:Nat)(o:Obj):Prop:=Quiet o/\w.heap[b]?=some o
def QJ.lt {w:Zb}{b:Nat}{o:Obj}(h:QJ w b o):b<w:=(Za.1 h.2).1
def Jk (wl:Zb)(v:Zf)(w:Zb):Prop:=v=.bool true/\∀b o,QJ wl b o->w.heap[b]?=some o
def PostX (wl:Zb)(x:List zk)(w:Zb):Prop:=PX x w/\∀b o,QJ wl b o->w.heap[b]?=some o
def Jk.blind (wl:Zb):C_ (Jk wl):=fun _ _ _ h=>h
def PostX.blind (wl:Zb):C_ (PostX wl):=fun _ _ t h=>⟨PX.blind _ _ t h.1,h.2⟩
def er {Q:Zo}{fr:ZM}{fn:Func}(ht:fr.defers=[])(hm:fr.mode=.returning)(hk:fr.kind=.normal)(hf:Q.funcs[fr.fn]?=some fn)(hr:fn.results= #[.tmp i])(hi:Q.inits.idxOf? fr.fn=none):
  unwind Q true fr [] none w=.ended (.done (fr.tmps.getD i Ze)) w (seen Q fr.fn #[]):=by
 unfold unwind;simp[-zh,ht,hm,hf,Go.FA.results_tmp (P':=Q) hr,zM,doReturn,hk,hi]
def bn (Jw:σ.ok=ND){cap:Array Zf}(h:VR σ (Wd cap) v):False:=by
 unfold Wd at h;cases h with
 |iface _ h=>
  cases h with
  |func h=>
   cases h with
   |func h=>
    rw[Jw]at h;have:aE 88=true:=h;cases this
def uh {f:ZaQ}{fn:Func}(hf:ND.Nc f=true)(hfL:TZ f=true)(G9:Tryz.prog.funcs[f]?=some fn)(hr:fn.results= #[.tmp i])(pC:Tryz.prog.inits.idxOf? f=none)
 {args:Array Zf} (Jc:∃o,W.heap[ND.low]?=some o/\∃c e f,o=.cells c e f) (h0:∃c e f,W.heap[0]?=some (.cells c e f)) (ie:BS (Qk W) args args)
 (hc:∀t,Calls Lp f args (tp (BD W) t) (Wr (tp (BD W) t))):
  ∃M last o w' t',ZaE Zc (M+1) (solo (G (Zq Zc f args .normal) []) W) #[]=(.ended o w',t')/\runN Zc M (solo (G (Zq Zc f args .normal) []) W)=.next last/\
   step Zc last=.ended o w'/\Conc.Good Zc (fun v W'=>v=.bool true/\Qb6 W W') last o w' t':=by
 obtain⟨o,Jc,FY⟩:=Jc;obtain⟨c0,e0,f0,h0⟩:=h0;have T:=AP.twins;have hd:BP<=Tryz.prog.depth:=of_decide_eq_true k!;have hdL:BP<=Lp.depth:=by rw[oD];exact hd
 have hB:=ue f;have E:Env Lp Zc (Qk W):=AP.alk rfl rfl rfl;have an2:Lp.funcs[f]?=some fn:=(AP.same f (Je.1 hf).1 (Je.1 hf).2).trans G9;have hWR:=U0 Jc FY;have EL:Env Lp Lp (ud W):=amZ rfl rfl rfl;have hSL:Fx Lp Lp (BT f) (AU (Zq Lp f args .normal) [C5 Lp]) (BD W):=
  ⟨ud W,AU (Zq Lp f args .normal) [],W,EL,⟨_,_,_,_,rfl,rfl,.bot (B:=BT f) (U1 EL hfL rfl (BS.sub (bm W) ie))⟩,ek Jc FY,rfl⟩
 have OJ:∀t,Calls Lp f args (tp (BD W) t) (gr (Jk (BD W)) (PostX (BD W))):=fun t=>(hc t).mono fun e w' ⟨hb,he⟩=>by
  have hq:∀b o,QJ (BD W) b o->w'.heap[b]?=some o:=fun b o h=>(hb.block b h.lt).trans h.2;rcases he with rfl|⟨x,rfl,hx⟩
  .exact⟨rfl,hq⟩
  exact⟨hx,hq⟩
 have hM:=XR ei hdL hB rfl rfl (B:=BT f) an2 hr (Jk.blind _) (PostX.blind _) rfl hSL OJ;have K:Dg Lp (BT f) true (Ez Lp (BT f) fn (Jk (BD W)) (PostX (BD W))):=I5 rfl (Jk.blind _) (PostX.blind _);have SG:=KO (P':=Lp) (B:=BT f) (fn:=fn) (Post:=Jk (BD W)) (PostX:=PostX (BD W)) rfl;have himp:∀g w,Ez Lp (BT f) fn (Jk (BD W)) (PostX (BD W)) g w->Ez Lp (BT f) fn (Jk (BD W)) PX g w:=fun g w h=>h.imp id fun⟨x,h1,h2⟩=>⟨x,h1,h2.1⟩;have an3:∀g w,Ez Lp (BT f) fn (Jk (BD W)) (PostX (BD W)) g w->∀b o,QJ (BD W) b o->w.heap[b]?=some o:=by
  rintro g w (⟨_,_,i,_,h,_⟩|⟨x,_,h⟩) b o hb
  .exact h.2 b o hb
  exact h.2 b o hb
 have hS0:∀c,Dc W c↔∃b,Qk W b=some c:=fun c=>⟨fun h=>⟨c,Ir.2 ⟨h,rfl⟩⟩,fun⟨b,h⟩=>by obtain⟨h1,rfl⟩:=Ir.1 h;exact h1⟩;have hSt:Gh Lp Zc (BT f) (Qk W) (Zq Lp f args .normal:: [C5 Lp]) (Zq Zc f args .normal:: []):=.bot (B:=BT f) (U1 E hf (Je.1 hf).2 ie);have H:Nr Lp Zc (BT f) (QJ (BD W)) (Qk W) (BD W).heap.size W (Dc W) (Dc W) (Qk W) (AU (Zq Lp f args .normal) [C5 Lp]) (BD W) (AU (Zq Zc f args .normal) []) W:=
  ⟨E,Ren.le_refl _,fun _ _ h=>.inl h,⟨Zj _,Zj _⟩,.inl ⟨_,_,_,_,rfl,rfl,hSt⟩,hWR,fun c hc=>⟨c,Ir.2 ⟨hc,rfl⟩,eo Jc FY hc⟩,hS0⟩
 have an4:∀c,Dc W c->c<W.heap.size:=fun c h=>(hWR.lt (Ir.2 ⟨h,rfl⟩)).2;have X:Ctx Zc (Dc W) (AU (Zq Zc f args .normal) []) W #[AU (Zq Zc f args .normal) []] #[] (fun _=>0) (fun _=>False):=
  ⟨rfl,leavers_one _ _,past_nil.mono (Zp _),fun b hb=>⟨an4 b hb,fun _ _ h=>h⟩,fun l h=>h.elim⟩
 have SP:nO Lp Zc (BT f) (QJ (BD W)) true (Ez Lp (BT f) fn (Jk (BD W)) (PostX (BD W))) (Qk W) (BD W).heap.size W (Dc W):=by
  intro S ρ g w g' w' gs sl t q Shun Jv hMu HH XX;obtain⟨k,a,a',fr,cs,Bx,cs',h1,h2,h3,rfl,rfl,h4,h5⟩:=Jv;have Jw:ρ.ok=ND:=HH.le.2.1;rw[Jw]at h1;rw[HH.le.2.2.2]at h2;have agL:=Cv.imp himp hMu;have hk:k=65\/k=60:=by simpa[Qk,Ren.VQ,Xh]using h2
  have agM:(Wa k&&(if k=65 then a.size==2 else if k=60 then a.size==3 else true))=true:=h1;rcases hk with rfl|rfl
  .have ha:a.size=2:=by simpa[Wa]using agM
   exact aaY rfl rfl (Jk.blind _) ha h3 Jw (HH.le.1 _ _ (pA h0)) (fun b o h=>h.1) h4 h5 agL HH XX
  have ha:a.size=3:=by simpa[Wa]using agM
  exact tT rfl rfl (Jk.blind _) ha h3 Jw h4 h5 agL HH XX
 have way:=nP (P':=Lp) (P:=Zc) (B:=BT f) (m:=true) (Lk:=Dc W) T hd hB K SG.KJ (ρ₀:=Qk W) (n₀:=(BD W).heap.size) (n₀':=W) (J:=QJ (BD W)) (D₀:=fun g w=>Fx Lp Lp (BT f) g w\/Hs (BT f) g\/P9 (BT f) g)
  (fun g w t AH w₁ es h hn hs=>Fx.out ei hdL hB rfl h hn hs) (fun b o h=>⟨h.1,h.lt⟩)
  (fun g w hD hz hMu b o h=>Mr ei hdL hB K (fun b o h=>h.1) an3 hMu hD b o h (Zl h.lt hz))
  (fun σ g w hle hl B_=>by
   obtain⟨c,r,x,x',h1,h2,hx⟩:=hl;have sF: [C5 Lp]=c::r:=h1;obtain⟨e1,e2⟩:=zL sF;subst e1 e2;rcases B_ with⟨ha,dL,_⟩|⟨y,h4,Ss,_⟩
   .rw[h2]at dL
    exact absurd (congrArg List.length dL) (by simp[AU,BT])
   rw[h2]at h4;have e:x=y:=Mb (congrArg (fun g:Zi=>g.frame) h4);subst e;rcases Ss with⟨_,_,_,_,_,_,_,_,_,rfl,_⟩|⟨_,_,_,_,rfl,_⟩
   all_goals
    cases hx with
    |cons hh _=>exact bn hle.2.1 hh.v)
  SP hM (.inl hSL)
 obtain⟨N,CQ,CU,Ea,GJ,Shun₁,FO,C9,w₁',By,⟨xn,AH,w₁,Bt,HH⟩,XX,hD⟩:=way (Dc W) (Qk W) _ W _ none #[] (fun _=>0) (fun _=>False) H X;have Da:Qb6 W w₁':=⟨hD.os,hD.tape,hD.output,hD.size,fun b hb=>hD.still b hb (by
  by_cases h:Dc W b
  .exact .inr h
  exact .inl h)⟩
 rcases Bt with⟨ha,dL,j,hj,UK,_,_⟩|⟨x,rfl,_⟩
 case inr=>
  exfalso;rcases HH.goes with⟨fr,cs,Bx,cs',h1,_,hS⟩|⟨_,_,_,c',r',_,_,_,h2,_⟩|⟨_,_,_,_,_,_,_,_,_,_,h1,_,hS,_⟩
  .have:=hS.deep
   have e:cs=[]:=(congrArg ZaP h1).symm;subst e;simp[BT]at this
  .cases h2
  have:=congrArg (fun g:Zi=>g.callers.length) h1;simp[AU]at this
 rw[hr]at hj;obtain rfl:i=j:=by simpa using hj
 rcases HH.goes with⟨fr,cs,Bx,cs',rfl,rfl,hS⟩|⟨_,_,_,c',r',_,_,_,h2,_⟩|⟨_,_,_,_,_,_,_,_,_,_,rfl,_,hS,_⟩
 case inr.inl=>cases h2
 case inr.inr=>
  have:=hS.deep;have an6:_::_=(BT f).lcs:=dL;rw[<-an6]at this;simp at this
 obtain⟨FD,rfl,hF⟩:=hS.VL (by rw[show cs=(BT f).lcs from dL]);obtain⟨_,_,AM,tq⟩:True/\True/\fr.mode=.returning/\fr.defers=[]:=by
  rcases ha with⟨h,_⟩|⟨_,_,h1,h2⟩
  .cases h
  exact⟨trivial,trivial,h1,h2⟩
 have GL:Bx.mode=.returning:=by
  have:=hF.mode;rw[AM]at this;generalize Bx.mode=x at this;cases this
  rfl
 have agN:Bx.defers=[]:=by
  obtain⟨d,h1,h2⟩:=hF.defers;rw[tq]at h2;rw[h1,Ep.RM h2]
  rfl
 have ui:Bx.fn=f:=hF.fn.trans (hF.flat rfl).2;have agO:Bx.kind=.normal:=hF.nA rfl;have hval:Bx.tmps.getD i Ze=.bool true:=by
  have hv:VR xn (fr.tmps.getD i Ze) (Bx.tmps.getD i Ze):=by
   have ht:=hF.tmps;by_cases hi:i<fr.tmps.size
   .have DN:i<Bx.tmps.size:=ht.size▸hi
    have:=ht.at_ i _ _ rfl (Zx hi) (Zx DN);simpa[Yp,hi,DN]using this
   have DN:¬i<Bx.tmps.size:=ht.size▸hi;simpa[Yp,hi,DN]using VR.undef xn
  have hp:fr.tmps.getD i Ze=.bool true:=UK.1;rw[hp]at hv;generalize Bx.tmps.getD i Ze=y at hv;cases hv
  rfl
 have RV:∀u,za Zc true (AU Bx []) u=.ended (.done (.bool true)) u (seen Zc Bx.fn #[]):=fun u=>by
  rw[BG.2 (by rw[GL];intro h;cases h),er agN GL agO (by rw[ui];exact G9) hr (by rw[ui];exact pC),hval]
 have agP:seen Zc Bx.fn #[]= #[]:=rfl;obtain⟨Mt,last,o,w',t',k1,k2,k3,k4⟩:=beside_ends (P:=Zc) (Shun:=Shun₁) (B:=w₁') (D:=fun _ _ _=>False) (Post:=fun v W'=>v=.bool true/\Qb6 W W') (sl:=CU) (n:=0) (fun _ _ _ h=>h.elim) XX.main XX.old XX.past (by
  rintro u ⟨d,rfl⟩;exact⟨rfl,_,_,RV _,fun e he=>by rw[agP]at he;simp at he,rfl,⟨Da.os,Da.tape,Da.output,Da.size,Da.block⟩⟩)
 refine⟨N+Mt,last,o,w',t',?_,?_,k3,k4⟩
 .rw[show N+Mt+1=N+(Mt+1) by omega]
  show ZaE Zc (N+(Mt+1)) (Yj #[AU (Zq Zc f args .normal) []] W none) #[]=_;rw[Go.FA.runNT_add _ _ _ _ _ _ By];exact k1
 have hrn:runN Zc N (Yj #[AU (Zq Zc f args .normal) []] W none)=.next (Yj CQ w₁' CU):=by rw[<-runNT_fst _ _ _ #[],By]
 show runN Zc (N+Mt) (Yj #[AU (Zq Zc f args .normal) []] W none)=_;rw[runN_add,hrn];exact k2
end Go.Proofs.Fit
