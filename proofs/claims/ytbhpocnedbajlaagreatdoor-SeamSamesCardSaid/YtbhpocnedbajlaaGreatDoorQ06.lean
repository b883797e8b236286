/- Part of a proof. -/
import Derived.Test.YtbhpocnedbajlaaGreatDoorQ05
import Derived.Stop.Asserts
set_option maxRecDepth 100000
set_option maxHeartbeats 6400000
noncomputable section
set_option linter.all false
def w! {p:Prop}(h:p:=by (have hm:=zO he;simp[go_sem,Yv, *]at hm;(repeat' (rcases hm with hm|hm));all_goals (try subst hm);all_goals first|exact Bq|exact YJ _ _ (hS _ (by simp)) (by show _<B;simp<;>omega))):p:=h
open Array renaming getElem?_push_size->Zav,getElem?_modify->Y7,toList->ZbD,mem_of_getElem?->zY,sizeOf_lt_of_mem->Zds,getElem?_map->zF,getElem?_eq_some_iff->Za,getElem?_eq_getElem->Zx,getD_eq_getD_getElem?->Yp
open Bool renaming or_eq_true->ZaK,and_eq_true->ZF,not_eq_true'->ZcF
open Go renaming World->Zb,Value->Zf,TypeId->Zs,loadVar->Zdd,loadCellsFrom->ZdD,storeCells->ZbX,Event->Z9,Frame->ZM,undef->Ze,callFunc->Zz,method->Za5,Program->Zo,storedEv->Yv,Goroutine->Zi,Trace->YZ,runNT->ZaE,FuncId->ZaQ,PanicEntry->zk,stepG->za
open Go.Addr renaming add->Zcu
open Go.Conc renaming AtRel->Zct,stepG_seq->Zn,stepG_region_end->Zg,stepG_ret'->z8,events_results_tmp->ZdW,stepG_skip->ZU,goes_oper_k->zx,mem_listed->zO,evL_cell->YJ,stepG_block->Zbq,crowd->Yj
open Go.Conc.Goes renaming stop->ZT
open Go.Frame renaming enter->Zq
open Go.GStep renaming after->zM
open Go.Goroutine renaming callers->ZaP
open Go.IntKind renaming u8->ZcE
open Go.MemAct renaming ofEvent->ZR,touch?->Yg,low->Zce
open Go.Obj renaming cells->Zbi
open Go.Proofs.Tryz renaming prog->Zc,underlying130->ZaX,func65->ZdY,f65->YV,results65->ZbJ,f95->ZbQ
open Go.Question renaming appendCap->zJ
open Go.Result renaming andThen->zu,evThen->ZaB
open Go.RowKit renaming Below->YH
open Go.RowKit.Below renaming heap_alloc->zD,heap_setCell->Y4
open Go.Sem renaming run_bind->zg,events_bind->ZcI,runT_eq->zh
open Go.Value renaming int->ZL
open Go.World renaming cell?->zy,cell?_of_block->zn,setCell->Z8,block_lt_of_cell?->ZH,frozen?_of_block->ZdX,alloc->Zaz,frozen?->Yo,shape?->Yn
open List renaming range->Yr,all_eq_true->Zdm
open List.cons renaming inj->zL
open Nat renaming le_refl->Zj,le_trans->Zr,zero_le->Zp,lt_of_lt_of_le->Zl
open Option renaming getD_some->Zw,map_some->Zdh
open Option.some renaming inj->ZW
namespace Go.Proofs.Fit
open Go Go.RowKit Go.Extern.Stop Go.Stop Go.Extern
def dQ (t:Addr)(w:Zb):(ReflectliteValue.unpack (.iface 130 (.pointer (some t)))).run Zc w
  =.ok (.agg #[.pointer (some ⟨1,130,none⟩),.pointer w,.int .u64 150]) (w.alloc (.cells #[.pointer (some t)] 130)):=k!
def j5 (a:Addr)(w:Zb):(ReflectliteValue.methodAny (ReflectliteValue.valueError "reflectlite.Value.Type" 0) (fun t _ _ _=>ReflectliteType.toType t) #[.agg #[.pointer (some ⟨1,130,none⟩),.pointer (some a),.int .u64 150]]).run Zc w
  =.ok (.iface 205 (.agg #[.pointer (some ⟨1,130,none⟩)])) w:=k!
def j6 (w:Zb):((ReflectliteType.abiMethod fun t=>(fun a:Nat=>ZL ZcE (a:Int))<$>Rtype.kind t) #[.pointer (some ⟨1,130,none⟩)]).run Zc w=.ok (.int .u8 22) w:=k!
def j7 (w:Zb):((ReflectliteType.abiMethod fun t=>(fun a:Nat=>ZL ZcE (a:Int))<$>Rtype.kind t) #[.pointer (some ⟨1,128,none⟩)]).run Zc w=.ok (.int .u8 25) w:=k!
def h_ (z:Sem Zf)(f:Zs->Addr->Nat->Nat->Sem Zf)(v:Zf):
  ReflectliteValue.method z f #[v]=(do match <-ReflectliteValue.parts v with|none=>z|some (t,a,fl)=>f t a fl (fl % 32)):=rfl
def JM (a:Addr)(w:Zb):(ReflectliteValue.parts (.agg #[.pointer (some ⟨1,130,none⟩),.pointer (some a),.int .u64 150])).run Zc w=.ok (some (130,a,150)) w:=k!
def dR (a p:Addr)(W:Zb)(ha:W.cell? a=some (.pointer (some p))):
  (ReflectliteValue.method (ReflectliteValue.valueError "reflectlite.Value.IsNil" 0) ReflectliteValue.isNil #[.agg #[.pointer (some ⟨1,130,none⟩),.pointer (some a),.int .u64 150]]).run Zc W=.ok (.bool false) W:=by
 rw[h_];simp only[zg,JM,zu];simp[ReflectliteValue.isNil,Zdd,isAgg,underlying,ZaX,ha,zu]
def j8 (w:Zb):(ReflectliteType.method ReflectliteType.elem #[.agg #[.pointer (some ⟨1,130,none⟩)]]).run Zc w=.ok (.iface 205 (.agg #[.pointer (some ⟨1,128,none⟩)])) w:=k!
def j9 (w:Zb):(ReflectliteType.relation "Implements" ReflectliteType.implements_ #[.agg #[.pointer (some ⟨1,128,none⟩)],.iface 205 (.agg #[.pointer (some ⟨1,124,none⟩)])]).run Zc w=.ok (.bool true) w:=k!
def aY (v:Zf)(w:Zb):(ReflectliteType.typeOf #[.iface 128 v]).run Zc w=.ok (.iface 205 (.agg #[.pointer (some ⟨1,128,none⟩)])) w:=k!
def aZ (w:Zb):(ReflectliteType.relation "AssignableTo" ReflectliteType.assignableTo #[.agg #[.pointer (some ⟨1,128,none⟩)],.iface 205 (.agg #[.pointer (some ⟨1,128,none⟩)])]).run Zc w=.ok (.bool true) w:=k!
def dS (n:Int)(w:Zb):(ReflectliteValue.unpack (.iface 128 (.agg #[.int .i64 n]))).run Zc w
  =.ok (.agg #[.pointer (some ⟨1,128,none⟩),.pointer w,.int .u64 153]) (w.alloc (.cells #[.int .i64 n] 128)):=k!
def PI (w:Zb):(Rtype.elem? 130).run Zc w=.ok (some 128) w:=k!
def tU (p:Addr)(w:Zb):(ReflectliteValue.mk 128 p ReflectliteValue.flagAddr).run Zc w=.ok (.agg #[.pointer (some ⟨1,128,none⟩),.pointer (some p),.int .u64 409]) w:=k!
def dT (a p:Addr)(W:Zb)(ha:W.cell? a=some (.pointer (some p))):
  (ReflectliteValue.method (ReflectliteValue.valueError "reflectlite.Value.Elem" 0) ReflectliteValue.elem #[.agg #[.pointer (some ⟨1,130,none⟩),.pointer (some a),.int .u64 150]]).run Zc W
   =.ok (.agg #[.pointer (some ⟨1,128,none⟩),.pointer (some p),.int .u64 409]) W:=by
 rw[h_];simp only[zg,JM,zu];simp[ReflectliteValue.elem,Zdd,isAgg,underlying,ZaX,ha,zu,PI,tU]
def xk (v x:Zf):ReflectliteValue.set #[v,x]=(do
  let(some (dst,a,fl),some (src,b,_)):=(<-ReflectliteValue.parts v, <-ReflectliteValue.parts x)
   |unsupported (.noEntry "extern/(internal/reflectlite.Value).Set.zeroValue")
  if fl / ReflectliteValue.flagAddr % 2==0 then unsupported (.noEntry "extern/(internal/reflectlite.Value).Set.unaddressable")
  let val <-Zdd src b
  if <-Rtype.directlyAssignable dst src then storeVar dst a val
  else if <-Rtype.implements dst src then
   if(<-Rtype.kind src)==20 then
    match val with
    | .nilIface=>unsupported (.noEntry "extern/reflectlite: a nil value of one interface type handed on as a value of another")
    |_=>storeVar dst a val
   else storeVar dst a (.iface src val)
  else panicString ("reflectlite.Set: value of type " ++(<-Rtype.spelt src)++ " is not assignable to type " ++(<-Rtype.spelt dst))
  pure (.tuple #[])):=rfl
def PK (a:Addr)(w:Zb):(ReflectliteValue.parts (.agg #[.pointer (some ⟨1,128,none⟩),.pointer (some a),.int .u64 409])).run Zc w=.ok (some (128,a,409)) w:=k!
def SB (a:Addr)(w:Zb):(ReflectliteValue.parts (.agg #[.pointer (some ⟨1,128,none⟩),.pointer (some a),.int .u64 153])).run Zc w=.ok (some (128,a,153)) w:=k!
def PL (w:Zb):(Rtype.directlyAssignable 128 128).run Zc w=.ok true w:=k!
def oY (ta b:Addr)(n:Int)(old:Zf)(W:Zb)(hb:W.cell? b=some (.int .i64 n))(ht:W.cell? ta=some old)(hf:W.frozen? ta=false):
  (ReflectliteValue.set #[.agg #[.pointer (some ⟨1,128,none⟩),.pointer (some ta),.int .u64 409],.agg #[.pointer (some ⟨1,128,none⟩),.pointer (some b),.int .u64 153]]).run Zc W
   =.ok (.tuple #[]) (W.setCell ta (.int .i64 n)):=by
 rw[xk];simp only[zg,PK,SB,zu];simp[ReflectliteValue.flagAddr,Zdd,isAgg,underlying,Tryz.underlying128,zu,loadCells,ZdD,Zcu,hb,PL,storeVar,Value.cells,ZbX];rw[run_store Zc W ta _ _ (by rfl)];simp[ht,hf]
def dU (t:Addr)(w:Zb)(es:Array Z9):(ReflectliteValue.unpack (.iface 130 (.pointer (some t)))).events Zc w es=es:=k!
def j_ (a:Addr)(w:Zb)(es:Array Z9):(ReflectliteValue.methodAny (ReflectliteValue.valueError "reflectlite.Value.Type" 0) (fun t _ _ _=>ReflectliteType.toType t) #[.agg #[.pointer (some ⟨1,130,none⟩),.pointer (some a),.int .u64 150]]).events Zc w es=es:=k!
def kg (w:Zb)(es:Array Z9):((ReflectliteType.abiMethod fun t=>(fun a:Nat=>ZL ZcE (a:Int))<$>Rtype.kind t) #[.pointer (some ⟨1,130,none⟩)]).events Zc w es=es:=k!
def ki (w:Zb)(es:Array Z9):((ReflectliteType.abiMethod fun t=>(fun a:Nat=>ZL ZcE (a:Int))<$>Rtype.kind t) #[.pointer (some ⟨1,128,none⟩)]).events Zc w es=es:=k!
def SC (a:Addr)(w:Zb)(es:Array Z9):(ReflectliteValue.parts (.agg #[.pointer (some ⟨1,130,none⟩),.pointer (some a),.int .u64 150])).events Zc w es=es:=k!
def kj (w:Zb)(es:Array Z9):(ReflectliteType.method ReflectliteType.elem #[.agg #[.pointer (some ⟨1,130,none⟩)]]).events Zc w es=es:=k!
def km (w:Zb)(es:Array Z9):(ReflectliteType.relation "Implements" ReflectliteType.implements_ #[.agg #[.pointer (some ⟨1,128,none⟩)],.iface 205 (.agg #[.pointer (some ⟨1,124,none⟩)])]).events Zc w es=es:=k!
def a_ (v:Zf)(w:Zb)(es:Array Z9):(ReflectliteType.typeOf #[.iface 128 v]).events Zc w es=es:=k!
def bd (w:Zb)(es:Array Z9):(ReflectliteType.relation "AssignableTo" ReflectliteType.assignableTo #[.agg #[.pointer (some ⟨1,128,none⟩)],.iface 205 (.agg #[.pointer (some ⟨1,128,none⟩)])]).events Zc w es=es:=k!
def dV (n:Int)(w:Zb)(es:Array Z9):(ReflectliteValue.unpack (.iface 128 (.agg #[.int .i64 n]))).events Zc w es=es:=k!
def bh (w:Zb)(es:Array Z9):(Rtype.elem? 130).events Zc w es=es:=k!
def tV (p:Addr)(w:Zb)(es:Array Z9):(ReflectliteValue.mk 128 p ReflectliteValue.flagAddr).events Zc w es=es:=k!
def bj (a:Addr)(w:Zb)(es:Array Z9):(ReflectliteValue.parts (.agg #[.pointer (some ⟨1,128,none⟩),.pointer (some a),.int .u64 409])).events Zc w es=es:=k!
def dW (a:Addr)(w:Zb)(es:Array Z9):(ReflectliteValue.parts (.agg #[.pointer (some ⟨1,128,none⟩),.pointer (some a),.int .u64 153])).events Zc w es=es:=k!
def bk (w:Zb)(es:Array Z9):(Rtype.directlyAssignable 128 128).events Zc w es=es:=k!
end Go.Proofs.Fit
namespace Go.Proofs.Fit
open Go Go.RowKit Go.Extern.Stop Go.Stop Go.Extern Go.Conc
def dX (a p:Addr)(W:Zb)(es:Array Z9)(ha:W.cell? a=some (.pointer (some p))):
  (ReflectliteValue.method (ReflectliteValue.valueError "reflectlite.Value.IsNil" 0) ReflectliteValue.isNil #[.agg #[.pointer (some ⟨1,130,none⟩),.pointer (some a),.int .u64 150]]).events Zc W es=es.push ⟨.cell a,false,false⟩:=by
 rw[h_];simp only[ZcI,JM,SC,ZaB];simp[ReflectliteValue.isNil,Zdd,isAgg,underlying,ZaX,ha,ZaB,events_load]
 rfl
def dY (a p:Addr)(W:Zb)(es:Array Z9)(ha:W.cell? a=some (.pointer (some p))):
  (ReflectliteValue.method (ReflectliteValue.valueError "reflectlite.Value.Elem" 0) ReflectliteValue.elem #[.agg #[.pointer (some ⟨1,130,none⟩),.pointer (some a),.int .u64 150]]).events Zc W es=es.push ⟨.cell a,false,false⟩:=by
 rw[h_];simp only[ZcI,JM,SC,ZaB];simp[ReflectliteValue.elem,Zdd,isAgg,underlying,ZaX,ha,ZaB,events_load,PI,bh,tV]
 rfl
def oZ (ta b:Addr)(n:Int)(old:Zf)(W:Zb)(es:Array Z9)(hb:W.cell? b=some (.int .i64 n))(ht:W.cell? ta=some old)(hf:W.frozen? ta=false):
  (ReflectliteValue.set #[.agg #[.pointer (some ⟨1,128,none⟩),.pointer (some ta),.int .u64 409],.agg #[.pointer (some ⟨1,128,none⟩),.pointer (some b),.int .u64 153]]).events Zc W es
   =(es.push ⟨.cell b,false,false⟩).push ⟨.cell ta,true,false⟩:=by
 rw[xk];simp only[ZcI,PK,SB,bj,dW,ZaB];simp[ReflectliteValue.flagAddr,Zdd,isAgg,underlying,Tryz.underlying128,ZaB,loadCells,ZdD,Zcu,hb,PL,bk,storeVar,Value.cells,ZbX,events_load];rw[events_store _ _ _ ta _ _ rfl];simp[ht,hf]
 rfl
end Go.Proofs.Fit
set_option linter.unusedSimpArgs false
namespace Go.Proofs.Fit
open Go Go.Conc Go.ConcX Go.RowKit Go.Conc.Lib Go.ConcX.Gen Go.Extern
variable {Shun:Loc->Prop}
variable {B f t k b c i:Nat}
def Bq {wr sy:Bool}:EvL Shun B ⟨.mark (.extern f),wr,sy⟩:=by
 refine⟨fun x hx _=>?_,i!,i!,?_⟩
 .simp[ZR,Yg]at hx
 simp[ZR,Zce]
def ia (a0 a1:Zf)(cs:List ZM):Go.FA.AU (Zq Zc 65 #[a0,a1] .normal) cs=G ((base 65).at ⟨#[a0,a1,Ze,Ze,Ze,Ze,Ze,Ze,Ze,Ze,Ze,Ze,Ze,Ze,Ze,Ze,Ze,Ze,Ze,Ze,Ze,Ze,Ze,Ze,Ze,Ze,Ze,Ze,Ze,Ze,Ze,Ze,Ze,Ze,Ze,Ze,Ze,Ze,Ze,Ze,Ze,Ze],[]⟩ [.code (Tryz.f65.body.getD .skip)]) cs:=by
 simp[Go.FA.AU,G,Zq,Frame.at,base,ZdY,YV]
def agt (w:Zb)(es:Array Z9):(binOp .eql 124 .nilIface .nilIface).events Zc w es=es:=k!
def agu (n:Int)(w:Zb):(binOp .eql 124 (.iface 128 (.agg #[.int .i64 n])) .nilIface).run Zc w=.ok (.bool false) w:=k!
def aaO (n:Int)(w:Zb)(es:Array Z9):(binOp .eql 124 (.iface 128 (.agg #[.int .i64 n])) .nilIface).events Zc w es=es:=k!
def agv (a:Addr)(w:Zb):(binOp .eql 20 (.iface 130 (.pointer (some a))) .nilIface).run Zc w=.ok (.bool false) w:=k!
def aaP (a:Addr)(w:Zb)(es:Array Z9):(binOp .eql 20 (.iface 130 (.pointer (some a))) .nilIface).events Zc w es=es:=k!
def agw (w:Zb):(binOp .neq 177 (.int .u8 22) (.int .u8 22)).run Zc w=.ok (.bool false) w:=k!
def aaQ (w:Zb)(es:Array Z9):(binOp .neq 177 (.int .u8 22) (.int .u8 22)).events Zc w es=es:=k!
def agx (w:Zb):(binOp .neq 177 (.int .u8 25) (.int .u8 20)).run Zc w=.ok (.bool true) w:=k!
def aaR (w:Zb)(es:Array Z9):(binOp .neq 177 (.int .u8 25) (.int .u8 20)).events Zc w es=es:=k!
variable {W W2 w:Zb}
variable {f':ZM}
variable {cs:List ZM}
def bl {t:Zf}:
  Goes Zc true Zct (DE (EvL Shun B)) (fun g w=>g=G (f'.finish (.bool false)) cs/\∃d,w=W.at d) 20 (Go.FA.AU (Zq Zc 65 #[.nilIface,t] .normal) (f'::cs)) W:=by
 rw[ia];have hb:=agt;simp only[YV,Zw]
 l_c Zn
 l_reg
 l_op
 l_c Zg
 l_c Zn
 l_c Zn
 l_reg
 l_op
 l_op
 l_c Zg
 l_cond true
 l_c Zn
 l_reg
 l_op
 l_c Zg
 l_c z8
 refine Goes.step rfl (fun w₁ BO=>?_);obtain⟨dd,Pv⟩:=BO;subst Pv;rw[stepG_leave (v:=.bool false) (fn:=YV) rfl rfl ZdY (results_tmp ZbJ _ _ _) (ZdW ZbJ _ _)];simp only[goes_go];refine⟨by u_nil,?_⟩;refine ZT (fun w₁ BO=>?_);obtain⟨d,hd⟩:=BO;subst hd;exact⟨rfl,d,rfl⟩
end Go.Proofs.Fit
namespace Go.Proofs.Fit
open Go Go.Conc Go.RowKit Go.Extern
def agy (args:Array Zf)(w:Zb):(Zz 92 args).run Zc w=(((fun args=>ReflectliteValue.unpack (args.getD 0 (.tuple #[]))) args).run Zc w).andThen fun v w'=>.ok (.value v) w':=
 @run_callFunc_extern Zc 92 _ (fun args=>ReflectliteValue.unpack (args.getD 0 (.tuple #[]))) Tryz.func92 k! k! k! k! args w
def d146 (args:Array Zf)(w:Zb)(es:Array Z9):(Zz 92 args).events Zc w es=((fun args=>ReflectliteValue.unpack (args.getD 0 (.tuple #[]))) args).events Zc w (es.push ⟨.mark (.extern 92),false,true⟩):=
 @events_callFunc_extern Zc w 92 _ (fun args=>ReflectliteValue.unpack (args.getD 0 (.tuple #[]))) Tryz.func92 k! k! k! k! args es
def alS (args:Array Zf)(w:Zb):(Zz 93 args).run Zc w=(((ReflectliteValue.methodAny (ReflectliteValue.valueError "reflectlite.Value.Type" 0) (fun t _ _ _=>ReflectliteType.toType t)) args).run Zc w).andThen fun v w'=>.ok (.value v) w':=
 @run_callFunc_extern Zc 93 _ (ReflectliteValue.methodAny (ReflectliteValue.valueError "reflectlite.Value.Type" 0) (fun t _ _ _=>ReflectliteType.toType t)) Tryz.func93 k! k! k! k! args w
def d147 (args:Array Zf)(w:Zb)(es:Array Z9):(Zz 93 args).events Zc w es=((ReflectliteValue.methodAny (ReflectliteValue.valueError "reflectlite.Value.Type" 0) (fun t _ _ _=>ReflectliteType.toType t)) args).events Zc w (es.push ⟨.mark (.extern 93),false,true⟩):=
 @events_callFunc_extern Zc w 93 _ (ReflectliteValue.methodAny (ReflectliteValue.valueError "reflectlite.Value.Type" 0) (fun t _ _ _=>ReflectliteType.toType t)) Tryz.func93 k! k! k! k! args es
def alT (args:Array Zf)(w:Zb):(Zz 94 args).run Zc w=(((ReflectliteValue.method (ReflectliteValue.valueError "reflectlite.Value.IsNil" 0) ReflectliteValue.isNil) args).run Zc w).andThen fun v w'=>.ok (.value v) w':=
 @run_callFunc_extern Zc 94 _ (ReflectliteValue.method (ReflectliteValue.valueError "reflectlite.Value.IsNil" 0) ReflectliteValue.isNil) Tryz.func94 k! k! k! k! args w
def d148 (args:Array Zf)(w:Zb)(es:Array Z9):(Zz 94 args).events Zc w es=((ReflectliteValue.method (ReflectliteValue.valueError "reflectlite.Value.IsNil" 0) ReflectliteValue.isNil) args).events Zc w (es.push ⟨.mark (.extern 94),false,true⟩):=
 @events_callFunc_extern Zc w 94 _ (ReflectliteValue.method (ReflectliteValue.valueError "reflectlite.Value.IsNil" 0) ReflectliteValue.isNil) Tryz.func94 k! k! k! k! args es
def agz (args:Array Zf)(w:Zb):(Zz 147 args).run Zc w=(((ReflectliteType.abiMethod fun t=>do pure (.int .u8 (<-Rtype.kind t))) args).run Zc w).andThen fun v w'=>.ok (.value v) w':=
 @run_callFunc_extern Zc 147 _ (ReflectliteType.abiMethod fun t=>do pure (.int .u8 (<-Rtype.kind t))) Tryz.func147 k! k! k! k! args w
def d207 (args:Array Zf)(w:Zb)(es:Array Z9):(Zz 147 args).events Zc w es=((ReflectliteType.abiMethod fun t=>do pure (.int .u8 (<-Rtype.kind t))) args).events Zc w (es.push ⟨.mark (.extern 147),false,true⟩):=
 @events_callFunc_extern Zc w 147 _ (ReflectliteType.abiMethod fun t=>do pure (.int .u8 (<-Rtype.kind t))) Tryz.func147 k! k! k! k! args es
def alU (args:Array Zf)(w:Zb):(Zz 158 args).run Zc w=(((ReflectliteType.method ReflectliteType.elem) args).run Zc w).andThen fun v w'=>.ok (.value v) w':=
 @run_callFunc_extern Zc 158 _ (ReflectliteType.method ReflectliteType.elem) Tryz.func158 k! k! k! k! args w
def d218 (args:Array Zf)(w:Zb)(es:Array Z9):(Zz 158 args).events Zc w es=((ReflectliteType.method ReflectliteType.elem) args).events Zc w (es.push ⟨.mark (.extern 158),false,true⟩):=
 @events_callFunc_extern Zc w 158 _ (ReflectliteType.method ReflectliteType.elem) Tryz.func158 k! k! k! k! args es
def alV (args:Array Zf)(w:Zb):(Zz 159 args).run Zc w=(((ReflectliteType.relation "Implements" ReflectliteType.implements_) args).run Zc w).andThen fun v w'=>.ok (.value v) w':=
 @run_callFunc_extern Zc 159 _ (ReflectliteType.relation "Implements" ReflectliteType.implements_) Tryz.func159 k! k! k! k! args w
def d219 (args:Array Zf)(w:Zb)(es:Array Z9):(Zz 159 args).events Zc w es=((ReflectliteType.relation "Implements" ReflectliteType.implements_) args).events Zc w (es.push ⟨.mark (.extern 159),false,true⟩):=
 @events_callFunc_extern Zc w 159 _ (ReflectliteType.relation "Implements" ReflectliteType.implements_) Tryz.func159 k! k! k! k! args es
def alW (args:Array Zf)(w:Zb):(Zz 124 args).run Zc w=((ReflectliteType.typeOf args).run Zc w).andThen fun v w'=>.ok (.value v) w':=
 @run_callFunc_extern Zc 124 _ ReflectliteType.typeOf Tryz.func124 k! k! k! k! args w
def d163 (args:Array Zf)(w:Zb)(es:Array Z9):(Zz 124 args).events Zc w es=(ReflectliteType.typeOf args).events Zc w (es.push ⟨.mark (.extern 124),false,true⟩):=
 @events_callFunc_extern Zc w 124 _ ReflectliteType.typeOf Tryz.func124 k! k! k! k! args es
def alX (args:Array Zf)(w:Zb):(Zz 156 args).run Zc w=(((ReflectliteType.relation "AssignableTo" ReflectliteType.assignableTo) args).run Zc w).andThen fun v w'=>.ok (.value v) w':=
 @run_callFunc_extern Zc 156 _ (ReflectliteType.relation "AssignableTo" ReflectliteType.assignableTo) Tryz.func156 k! k! k! k! args w
def d216 (args:Array Zf)(w:Zb)(es:Array Z9):(Zz 156 args).events Zc w es=((ReflectliteType.relation "AssignableTo" ReflectliteType.assignableTo) args).events Zc w (es.push ⟨.mark (.extern 156),false,true⟩):=
 @events_callFunc_extern Zc w 156 _ (ReflectliteType.relation "AssignableTo" ReflectliteType.assignableTo) Tryz.func156 k! k! k! k! args es
def alY (args:Array Zf)(w:Zb):(Zz 125 args).run Zc w=(((ReflectliteValue.method (ReflectliteValue.valueError "reflectlite.Value.Elem" 0) ReflectliteValue.elem) args).run Zc w).andThen fun v w'=>.ok (.value v) w':=
 @run_callFunc_extern Zc 125 _ (ReflectliteValue.method (ReflectliteValue.valueError "reflectlite.Value.Elem" 0) ReflectliteValue.elem) Tryz.func125 k! k! k! k! args w
def d164 (args:Array Zf)(w:Zb)(es:Array Z9):(Zz 125 args).events Zc w es=((ReflectliteValue.method (ReflectliteValue.valueError "reflectlite.Value.Elem" 0) ReflectliteValue.elem) args).events Zc w (es.push ⟨.mark (.extern 125),false,true⟩):=
 @events_callFunc_extern Zc w 125 _ (ReflectliteValue.method (ReflectliteValue.valueError "reflectlite.Value.Elem" 0) ReflectliteValue.elem) Tryz.func125 k! k! k! k! args es
def alZ (args:Array Zf)(w:Zb):(Zz 126 args).run Zc w=((ReflectliteValue.set args).run Zc w).andThen fun v w'=>.ok (.value v) w':=
 @run_callFunc_extern Zc 126 _ ReflectliteValue.set Tryz.func126 k! k! k! k! args w
def d165 (args:Array Zf)(w:Zb)(es:Array Z9):(Zz 126 args).events Zc w es=(ReflectliteValue.set args).events Zc w (es.push ⟨.mark (.extern 126),false,true⟩):=
 @events_callFunc_extern Zc w 126 _ ReflectliteValue.set Tryz.func126 k! k! k! k! args es
end Go.Proofs.Fit
namespace Go.Proofs.Fit
open Go Go.RowKit Go.Extern
def o_ (h:Zf)(w:Zb):(Za5 353 205 (.agg #[h]) "Kind").run Zc w=.ok (147,h) w:=k!
def aaS (h:Zf)(w:Zb):(Za5 353 205 (.agg #[h]) "Elem").run Zc w=.ok (158,.agg #[h]) w:=k!
def aaT (h:Zf)(w:Zb):(Za5 353 205 (.agg #[h]) "Implements").run Zc w=.ok (159,.agg #[h]) w:=k!
def pf (h:Zf)(w:Zb):(Za5 353 205 (.agg #[h]) "AssignableTo").run Zc w=.ok (156,.agg #[h]) w:=k!
def pg (h:Zf)(w:Zb)(es:Array Z9):(Za5 353 205 (.agg #[h]) "Kind").events Zc w es=es:=k!
def aaU (h:Zf)(w:Zb)(es:Array Z9):(Za5 353 205 (.agg #[h]) "Elem").events Zc w es=es:=k!
def aaV (h:Zf)(w:Zb)(es:Array Z9):(Za5 353 205 (.agg #[h]) "Implements").events Zc w es=es:=k!
def pj (h:Zf)(w:Zb)(es:Array Z9):(Za5 353 205 (.agg #[h]) "AssignableTo").events Zc w es=es:=k!
end Go.Proofs.Fit
set_option linter.unusedSimpArgs false
namespace Go.Proofs.Fit
open Go Go.Conc Go.ConcX Go.RowKit Go.Conc.Lib Go.ConcX.Gen Go.Extern
def hand (t:Nat):Zf:=.pointer (some ⟨1,t,none⟩)
def K3 (m:Nat):Array Zf:= #[hand 130,.pointer m,.int .u64 150]
structure Va (W W2:Zb)(t k:Nat):Prop where
 size:W2=W.heap.size+k
 old:∀b,b<W.heap.size->W2.heap[b]?=W.heap[b]?
 c0:W2.cell? W=some (.pointer t)
 b1:W2.heap[W.heap.size+1]?=some (.cells (K3 W) 172 (0,0))
 os:W2.os=W.os
 tape:W2.tape=W.tape
 output:W2.output=W.output
def Va.cells {W W2:Zb}{t k:Nat}(h:Va W W2 t k):W2.cell? (W+1:Nat)=some (hand 130)/\W2.cell? ⟨W+1,1,none⟩=some (.pointer W)/\W2.cell? ⟨W+1,2,none⟩=some (.int .u64 150):=by
 unfold zy;rw[h.b1];exact⟨rfl,rfl,rfl⟩
variable {W W2 w:Zb}
variable {B f t k b c i:Nat}
def Va.at (h:Va W W2 t k)(d:Nat):Va W (W2.at d) t k:=⟨h.size,h.old,h.c0,h.b1,h.os,h.tape,h.output⟩
def Va.alloc (h:Va W W2 t k)(hk:2<=k)(o:Obj):Va W (W2.alloc o) t (k+1):=by
 have hs:=h.size;have ho:∀b,b<W2.heap.size->(W2.alloc o).heap[b]?=W2.heap[b]? :=fun b hb=>zD _ _ _ hb;refine⟨by simp[hs];omega,fun b hb=>(ho b o!).trans (h.old b hb),?_,(ho _ o!).trans h.b1,h.os,h.tape,h.output⟩;exact(zn (a:=W) (ho _ (by show W.heap.size<_;omega))).trans h.c0
def pk (W:Zb)(t d:Nat):Va W ((((((W.alloc (.cells #[.pointer t] 130)).alloc (.cells #[.pointer none,.pointer none,.int .u64 0] 172)).at d).setCell (W+1:Nat) (hand 130)).setCell ⟨W+1,1,none⟩ (.pointer W)).setCell ⟨W+1,2,none⟩ (.int .u64 150)) t 2:=by
 have hh:∀b,b<W.heap.size+1->((((((W.alloc (.cells #[.pointer t] 130)).alloc (.cells #[.pointer none,.pointer none,.int .u64 0] 172)).at d).setCell (W+1:Nat) (hand 130)).setCell ⟨W+1,1,none⟩ (.pointer W)).setCell ⟨W+1,2,none⟩ (.int .u64 150)).heap[b]?=(W.alloc (.cells #[.pointer t] 130)).heap[b]? :=fun b hb=>by
  rw[Y4 _ _ _ _ (by show b≠W+1;omega),Y4 _ _ _ _ (by show b≠W+1;omega),Y4 _ _ _ _ (by show b≠W+1;omega)];exact zD _ _ _ j!
 refine⟨by simp only[Z8,Array.size_modify];show((W.alloc _).alloc _).heap.size=_;simp,fun b hb=>?_,?_,?_,rfl,rfl,rfl⟩
 .rw[hh b o!,zD _ _ _ hb]
 .unfold zy
  rw[hh _ (by show W.heap.size<_;omega)];have e:(W.alloc (.cells #[.pointer t] 130)).heap[W.heap.size]?=some (.cells #[.pointer t] 130 (0,0)):=Zav;rw[e]
  rfl
 unfold Z8;have e:((W.alloc (.cells #[.pointer t] 130)).alloc (.cells #[.pointer none,.pointer none,.int .u64 0] 172)).heap[W.heap.size+1]?=some (.cells #[.pointer none,.pointer none,.int .u64 0] 172 (0,0)):=by
  have:= @Array.getElem?_push_size _ ((W.alloc (.cells #[.pointer t] 130)).heap) (Zbi #[.pointer none,.pointer none,.int .u64 0] 172);have h2:(W.alloc (.cells #[.pointer t] 130)).heap.size=W.heap.size+1:=i!
  rw[h2]at this;exact this
 simp only[Y7,if_pos];show((((W.alloc _).alloc _).heap[W.heap.size+1]?.map _).map _).map _=_;rw[e]
 rfl
def tW (P:Zo)(w:Zb)(es:Array Z9)(a:Addr)(m:Mode)(b:Option Addr):(store a (.pointer b) m).events P w es=Yv P w es a (.pointer b) m:=events_store P w es a _ m rfl
def Km:Code->Code
 | .seq a _=>a
 |c=>c
def Fz:Code->Code
 | .seq _ b=>b
 |c=>c
def Wp:Code->Code
 | .block _ c=>c
 | .loop c=>c
 |c=>c
def Gq:Code->Array Oper
 | .region _ ops _=>ops
 |_=> #[]
def FX:Code:=Tryz.f65.body.getD .skip
def Jh:Code:=Fz FX
def Ji:Code:=Fz Jh
def Jj:Code:=Fz Ji
def Hx:Code:=Fz Jj
def Hy:Code:=Fz Hx
def Hz:Code:=Fz Hy
def EV:Code:=Fz Hz
def EW:Code:=Fz EV
def Dv:Array Oper:=Gq (Km EW)
variable {Shun:Loc->Prop}
variable {n:Int}
variable {f':ZM}
variable {cs:List ZM}
def am0 (hS:∀p:Addr,p.block=0\/p.block=t\/W.heap.size<=p.block->¬Shun (.cell p))(hB:W+4<=B):
  Goes Zc true Zct (DE (EvL Shun B)) (fun g w=>∃v2 v3 v6 v7 v8 v9 v10 v11 QC QD QE QF QG QH QI QK v20 QL QM QN QO QP QQ QR QS QT v30 QU QV QW QX QY QZ VX VY VZ V9 Q0 W3,g=G ((base 65).at ⟨#[.iface 128 (.agg #[.int .i64 n]),.iface 130 (.pointer t),v2,v3,(.bool false),(.pointer (W+1:Nat)),v6,v7,v8,v9,v10,v11,QC,QD,QE,QF,QG,QH,QI,QK,v20,QL,QM,QN,QO,QP,QQ,QR,QS,QT,v30,QU,QV,QW,QX,QY,QZ,VX,VY,VZ,V9,Q0],[]⟩ [.code Hx]) (f'::cs)/\Va W W3 t 2/\w=W3) 60
   (Go.FA.AU (Zq Zc 65 #[.iface 128 (.agg #[.int .i64 n]),.iface 130 (.pointer t)] .normal) (f'::cs)) W:=by
 rw[ia];have e1:=aaO;have e2:=aaP;have e3:=agu;have e4:=agv;have e7:=tW Zc;simp only[YV,Zw]
 l_c Zn
 l_reg
 l_op
 l_c Zg
 l_c Zn
 l_c Zn
 l_reg
 l_op
 l_op
 l_c Zg
 l_cond false
 l_c ZU
 l_c Zn
 l_c Zn
 l_reg
 l_op
 l_op
 l_c Zg
 l_cond false
 l_c ZU
 l_c Zn
 l_reg
 l_op
 have z0:=agy;have z1:=d146;have z2:=dQ;have z3:=dU
 l_in
 refine zx rfl rfl d! (fun K hK=>?_)
 go_simp
 refine hK _ _ ⟨fun e he=>w!,?_⟩
 clear hK K;clear z0 z1 z2 z3
 i_opw (hS _ q!)
 l_in
 rename_i dq;refine zx rfl rfl d! (fun K hK=>?_)
 go_simp
 refine hK _ _ ⟨fun e he=>?_,?_⟩
 .have hm:=zO he
  simp[go_sem,Yv, *]at hm;rcases hm with rfl|rfl|rfl
  all_goals exact YJ _ _ (hS _ i!) (by show W+1<B;omega)
 clear hK K;have hV:=pk W t dq;unfold hand at hV;generalize Z8 (Z8 (Z8 _ _ _) _ _) _ _=W2 at hV⊢;clear e1 e2 e3 e4 e7
 l_c Zg
 refine ZT (fun w₁ BO=>?_);obtain⟨d,hd⟩:=BO;subst hd
 try simp only[hand,EW,EV,Hz,Hy,Hx,Jj,Ji,Jh,FX,Fz,Km,Gq,Dv,YV,Zw]
 exact⟨_,_,_,_,_,_,_,_,_,_,_,_,_,_,_,_,_,_,_,_,_,_,_,_,_,_,_,_,_,_,_,_,_,_,_,_,_,_,_,rfl,hV.at _,rfl⟩
variable {v2 v3 v7 v8 v9 v10 v11 QC QD QE QF QG QH QI QK v20 QL QM QN QO QP QQ QR QS QT v30 QU QV QW QX QY QZ VX VY VZ V9 Q0 v x:Zf}
def am1 {v6:Zf}(hS:∀p:Addr,p.block=0\/p.block=t\/W.heap.size<=p.block->¬Shun (.cell p))(hB:W+4<=B)
 (hV:Va W W2 t 2):Goes Zc true Zct (DE (EvL Shun B)) (fun g w=>∃v2 v3 v7 v8 v9 v10 v11 QC QD QE QF QG QH QI QK v20 QL QM QN QO QP QQ QR QS QT v30 QU QV QW QX QY QZ VX VY VZ V9 Q0 W3,g=G ((base 65).at ⟨#[.iface 128 (.agg #[.int .i64 n]),.iface 130 (.pointer t),v2,v3,(.bool false),(.pointer (W+1:Nat)),(.iface 205 (.agg #[hand 130])),v7,v8,v9,v10,v11,QC,QD,QE,QF,QG,QH,QI,QK,v20,QL,QM,QN,QO,QP,QQ,QR,QS,QT,v30,QU,QV,QW,QX,QY,QZ,VX,VY,VZ,V9,Q0],[]⟩ [.code Hy]) (f'::cs)/\Va W W3 t 2/\w=W3) 60
   (G ((base 65).at ⟨#[.iface 128 (.agg #[.int .i64 n]),.iface 130 (.pointer t),v2,v3,(.bool false),(.pointer (W+1:Nat)),v6,v7,v8,v9,v10,v11,QC,QD,QE,QF,QG,QH,QI,QK,v20,QL,QM,QN,QO,QP,QQ,QR,QS,QT,v30,QU,QV,QW,QX,QY,QZ,VX,VY,VZ,V9,Q0],[]⟩ [.code Hx]) (f'::cs)) W2:=by
 simp only[hand,EW,EV,Hz,Hy,Hx,Jj,Ji,Jh,FX,Fz,Km,Gq,Dv,YV,Zw];have hA:=hV.cells;unfold hand at hA;obtain⟨q0,q1,q2⟩:=hA;have qp:=hV.c0;have D':=hV.size
 l_c Zn
 l_reg
 l_in
 refine zx rfl rfl d! (fun K hK=>?_)
 go_simp
 refine hK _ _ ⟨fun e he=>w!,?_⟩
 clear hK K;have z0:=alS;have z1:=d147;have z2:=j5;have z3:=j_
 l_in
 refine zx rfl rfl d! (fun K hK=>?_)
 go_simp
 refine hK _ _ ⟨fun e he=>w!,?_⟩
 clear hK K;clear z0 z1 z2 z3
 l_op
 l_c Zg
 refine ZT (fun w₁ BO=>?_);obtain⟨d,hd⟩:=BO;subst hd
 try simp only[hand,EW,EV,Hz,Hy,Hx,Jj,Ji,Jh,FX,Fz,Km,Gq,Dv,YV,Zw]
 exact⟨_,_,_,_,_,_,_,_,_,_,_,_,_,_,_,_,_,_,_,_,_,_,_,_,_,_,_,_,_,_,_,_,_,_,_,_,_,_,rfl,hV.at _,rfl⟩
def am2 (hS:∀p:Addr,p.block=0\/p.block=t\/W.heap.size<=p.block->¬Shun (.cell p))(hB:W+4<=B)
 (hV:Va W W2 t 2):Goes Zc true Zct (DE (EvL Shun B)) (fun g w=>∃v2 v3 v7 v8 v9 v10 v11 QC QD QE QF QG QH QI QK v20 QL QM QN QO QP QQ QR QS QT v30 QU QV QW QX QY QZ VX VY VZ V9 Q0 W3,g=G ((base 65).at ⟨#[.iface 128 (.agg #[.int .i64 n]),.iface 130 (.pointer t),v2,v3,(.bool false),(.pointer (W+1:Nat)),(.iface 205 (.agg #[hand 130])),v7,v8,v9,v10,v11,QC,QD,QE,QF,QG,QH,QI,QK,v20,QL,QM,QN,QO,QP,QQ,QR,QS,QT,v30,QU,QV,QW,QX,QY,QZ,VX,VY,VZ,V9,Q0],[]⟩ [.code Hz]) (f'::cs)/\Va W W3 t 2/\w=W3) 60
   (G ((base 65).at ⟨#[.iface 128 (.agg #[.int .i64 n]),.iface 130 (.pointer t),v2,v3,(.bool false),(.pointer (W+1:Nat)),(.iface 205 (.agg #[hand 130])),v7,v8,v9,v10,v11,QC,QD,QE,QF,QG,QH,QI,QK,v20,QL,QM,QN,QO,QP,QQ,QR,QS,QT,v30,QU,QV,QW,QX,QY,QZ,VX,VY,VZ,V9,Q0],[]⟩ [.code Hy]) (f'::cs)) W2:=by
 simp only[hand,EW,EV,Hz,Hy,Hx,Jj,Ji,Jh,FX,Fz,Km,Gq,Dv,YV,Zw];have hA:=hV.cells;unfold hand at hA;obtain⟨q0,q1,q2⟩:=hA;have qp:=hV.c0;have D':=hV.size
 l_c Zn
 l_c Zn
 l_reg
 l_op
 have z0:=agz;have z1:=d207;have z2:=o_;have z3:=pg;have z4:=j6;have z5:=kg
 l_in
 refine zx rfl rfl d! (fun K hK=>?_)
 go_simp
 refine hK _ _ ⟨fun e he=>w!,?_⟩
 clear hK K;clear z0 z1 z2 z3 z4 z5;have e5:=agw;have e6:=aaQ
 l_op
 clear e5 e6
 l_op
 l_in
 refine zx rfl rfl d! (fun K hK=>?_)
 go_simp
 refine hK _ _ ⟨fun e he=>w!,?_⟩
 clear hK K;have zi:=dR W t;have zj:=dX W t;have z0:=alT;have z1:=d148
 l_in
 refine zx rfl rfl d! (fun K hK=>?_)
 go_simp
 refine hK _ _ ⟨fun e he=>w!,?_⟩
 clear hK K;clear z0 z1;clear zi zj
 l_op
 l_c Zg
 l_cond false
 l_c ZU
 refine ZT (fun w₁ BO=>?_);obtain⟨d,hd⟩:=BO;subst hd
 try simp only[hand,EW,EV,Hz,Hy,Hx,Jj,Ji,Jh,FX,Fz,Km,Gq,Dv,YV,Zw]
 exact⟨_,_,_,_,_,_,_,_,_,_,_,_,_,_,_,_,_,_,_,_,_,_,_,_,_,_,_,_,_,_,_,_,_,_,_,_,_,_,rfl,hV.at _,rfl⟩
def am3 (hS:∀p:Addr,p.block=0\/p.block=t\/W.heap.size<=p.block->¬Shun (.cell p))(hB:W+4<=B)
 (hV:Va W W2 t 2):Goes Zc true Zct (DE (EvL Shun B)) (fun g w=>∃v2 v3 v8 v9 v10 v11 QC QD QE QF QG QH QI QK v20 QL QM QN QO QP QQ QR QS QT v30 QU QV QW QX QY QZ VX VY VZ V9 Q0 W3,g=G ((base 65).at ⟨#[.iface 128 (.agg #[.int .i64 n]),.iface 130 (.pointer t),v2,v3,(.bool false),(.pointer (W+1:Nat)),(.iface 205 (.agg #[hand 130])),(.iface 205 (.agg #[hand 128])),v8,v9,v10,v11,QC,QD,QE,QF,QG,QH,QI,QK,v20,QL,QM,QN,QO,QP,QQ,QR,QS,QT,v30,QU,QV,QW,QX,QY,QZ,VX,VY,VZ,V9,Q0],[]⟩ [.code EV]) (f'::cs)/\Va W W3 t 2/\w=W3) 60
   (G ((base 65).at ⟨#[.iface 128 (.agg #[.int .i64 n]),.iface 130 (.pointer t),v2,v3,(.bool false),(.pointer (W+1:Nat)),(.iface 205 (.agg #[hand 130])),v7,v8,v9,v10,v11,QC,QD,QE,QF,QG,QH,QI,QK,v20,QL,QM,QN,QO,QP,QQ,QR,QS,QT,v30,QU,QV,QW,QX,QY,QZ,VX,VY,VZ,V9,Q0],[]⟩ [.code Hz]) (f'::cs)) W2:=by
 simp only[hand,EW,EV,Hz,Hy,Hx,Jj,Ji,Jh,FX,Fz,Km,Gq,Dv,YV,Zw];have hA:=hV.cells;unfold hand at hA;obtain⟨q0,q1,q2⟩:=hA;have qp:=hV.c0;have D':=hV.size
 l_c Zn
 l_reg
 l_op
 have z0:=alU;have z1:=d218;have z2:=aaS;have z3:=aaU;have z4:=j8;have z5:=kj
 l_in
 refine zx rfl rfl d! (fun K hK=>?_)
 go_simp
 refine hK _ _ ⟨fun e he=>w!,?_⟩
 clear hK K;clear z0 z1 z2 z3 z4 z5
 l_op
 l_c Zg
 refine ZT (fun w₁ BO=>?_);obtain⟨d,hd⟩:=BO;subst hd
 try simp only[hand,EW,EV,Hz,Hy,Hx,Jj,Ji,Jh,FX,Fz,Km,Gq,Dv,YV,Zw]
 exact⟨_,_,_,_,_,_,_,_,_,_,_,_,_,_,_,_,_,_,_,_,_,_,_,_,_,_,_,_,_,_,_,_,_,_,_,_,_,rfl,hV.at _,rfl⟩
def agA (hS:∀p:Addr,p.block=0\/p.block=t\/W.heap.size<=p.block->¬Shun (.cell p))(hB:W+4<=B)(hg:W.cell? ⟨0,0,none⟩=some (.iface 205 (.agg #[hand 124])))
 (hV:Va W W2 t 2):Goes Zc true Zct (DE (EvL Shun B)) (fun g w=>∃v2 v3 v8 v9 v10 v11 QC QD QE QF QG QH QI QK v20 QL QM QN QO QP QQ QR QS QT v30 QU QV QW QX QY QZ VX VY VZ V9 Q0 W3,g=G ((base 65).at ⟨#[.iface 128 (.agg #[.int .i64 n]),.iface 130 (.pointer t),v2,v3,(.bool false),(.pointer (W+1:Nat)),(.iface 205 (.agg #[hand 130])),(.iface 205 (.agg #[hand 128])),v8,v9,v10,v11,QC,QD,QE,QF,QG,QH,QI,QK,v20,QL,QM,QN,QO,QP,QQ,QR,QS,QT,v30,QU,QV,QW,QX,QY,QZ,VX,VY,VZ,V9,Q0],[]⟩ [.code EW]) (f'::cs)/\Va W W3 t 2/\w=W3) 60
   (G ((base 65).at ⟨#[.iface 128 (.agg #[.int .i64 n]),.iface 130 (.pointer t),v2,v3,(.bool false),(.pointer (W+1:Nat)),(.iface 205 (.agg #[hand 130])),(.iface 205 (.agg #[hand 128])),v8,v9,v10,v11,QC,QD,QE,QF,QG,QH,QI,QK,v20,QL,QM,QN,QO,QP,QQ,QR,QS,QT,v30,QU,QV,QW,QX,QY,QZ,VX,VY,VZ,V9,Q0],[]⟩ [.code EV]) (f'::cs)) W2:=by
 simp only[hand,EW,EV,Hz,Hy,Hx,Jj,Ji,Jh,FX,Fz,Km,Gq,Dv,YV,Zw];have hA:=hV.cells;unfold hand at hA;obtain⟨q0,q1,q2⟩:=hA;have qp:=hV.c0;have D':=hV.size;have lZ:W2.cell? ⟨0,0,none⟩=some (.iface 205 (.agg #[.pointer (some ⟨1,124,none⟩)])):=(zn (a:=⟨0,0,none⟩) (hV.old 0 (ZH W _ hg))).trans hg;have h0l:0<W.heap.size:=ZH W _ hg
 l_c Zn
 l_c Zn
 l_reg
 l_op
 have z0:=agz;have z1:=d207;have z2:=o_;have z3:=pg;have z4:=j7;have z5:=ki
 l_in
 refine zx rfl rfl d! (fun K hK=>?_)
 go_simp
 refine hK _ _ ⟨fun e he=>w!,?_⟩
 clear hK K;clear z0 z1 z2 z3 z4 z5;have e5:=agx;have e6:=aaR
 l_op
 clear e5 e6
 l_op
 l_op
 l_in
 refine zx rfl rfl d! (fun K hK=>?_)
 go_simp
 refine hK _ _ ⟨fun e he=>w!,?_⟩
 clear hK K;have z0:=alV;have z1:=d219;have z2:=aaT;have z3:=aaV;have z4:=j9;have z5:=km
 l_in
 refine zx rfl rfl d! (fun K hK=>?_)
 go_simp
 refine hK _ _ ⟨fun e he=>w!,?_⟩
 clear hK K;clear z0 z1 z2 z3 z4 z5
 l_op
 l_op
 l_c Zg
 l_cond false
 l_c ZU
 refine ZT (fun w₁ BO=>?_);obtain⟨d,hd⟩:=BO;subst hd
 try simp only[hand,EW,EV,Hz,Hy,Hx,Jj,Ji,Jh,FX,Fz,Km,Gq,Dv,YV,Zw]
 exact⟨_,_,_,_,_,_,_,_,_,_,_,_,_,_,_,_,_,_,_,_,_,_,_,_,_,_,_,_,_,_,_,_,_,_,_,_,_,rfl,hV.at _,rfl⟩
end Go.Proofs.Fit
set_option linter.unusedSimpArgs false
