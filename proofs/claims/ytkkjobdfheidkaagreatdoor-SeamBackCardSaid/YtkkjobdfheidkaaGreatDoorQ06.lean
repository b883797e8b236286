/- Part of a proof. -/
import Derived.Test.YtkkjobdfheidkaaGreatDoorQ05
import Derived.Stop.Asserts
set_option maxRecDepth 100000
set_option maxHeartbeats 6400000
noncomputable section
set_option linter.all false
open Array renaming getElem?_push_size->ZaA,getElem?_modify->Zac,toList->ZbI,mem_of_getElem?->zC,sizeOf_lt_of_mem->Zds,getElem?_map->zN,getElem?_eq_some_iff->Za,getElem?_eq_getElem->ZC,getD_eq_getD_getElem?->Yz
open Bool renaming or_eq_true->Za1,and_eq_true->ZI,not_eq_true'->ZcI
open Go renaming World->Zc,Value->Ze,TypeId->Zr,loadCellsFrom->ZdE,storeCells->Zb3,Event->zc,Frame->ZT,undef->Zf,callFunc->ZB,method->Zbb,Program->Zp,storedEv->YE,Goroutine->Zi,Trace->Y8,runNT->ZaI,FuncId->ZaV,PanicEntry->zn,stepG->zd
open Go.Addr renaming add->Zcz
open Go.Conc renaming AtRel->Zcy,stepG_seq->Zo,stepG_region_end->Zh,stepG_ret'->Yf,events_results_tmp->ZdU,stepG_skip->Z3,goes_oper_k->zF,mem_listed->zX,evL_cell->YP,stepG_block->Zbx,crowd->Ys
open Go.Conc.Goes renaming stop->Z2
open Go.Frame renaming enter->Zq
open Go.GStep renaming after->zW
open Go.Goroutine renaming callers->ZaU
open Go.IntKind renaming u8->ZcH
open Go.MemAct renaming ofEvent->ZY,touch?->Yn,low->Zcj
open Go.Obj renaming cells->ZbM
open Go.Proofs.Tryz renaming prog->Zd,underlying123->Za3,func91->ZdW,f91->Y0,results91->ZbQ,f149->ZbW
open Go.Question renaming appendCap->zS
open Go.Result renaming andThen->zB,evThen->ZaF
open Go.RowKit renaming Below->YS
open Go.RowKit.Below renaming heap_alloc->zJ,heap_setCell->Zab
open Go.Sem renaming run_bind->zm,events_bind->ZcK,runT_eq->zk
open Go.Value renaming int->ZS
open Go.World renaming cell?->zG,cell?_of_block->zs,setCell->zb,block_lt_of_cell?->Zy,frozen?_of_block->ZdV,alloc->ZaE,frozen?->Yy,shape?->Yx
open List renaming range->ZL,all_eq_true->zt,length->ZbH
open List.cons renaming inj->zV
open Nat renaming le_refl->Zj,le_trans->Zt,zero_le->Zn,lt_of_lt_of_le->Zm
open Option renaming getD_some->Zx,map_some->Zdz
open Option.some renaming inj->ZK
namespace Go.Proofs.Fit
open Go Go.RowKit Go.Extern.Stop Go.Stop Go.Extern
def gC (t:Addr)(w:Zc):(ReflectliteValue.unpack (.iface 123 (.pointer (some t)))).run Zd w
  =.ok (.agg #[.pointer (some ⟨1,123,none⟩),.pointer (some ⟨w.heap.size,0,none⟩),.int .u64 150]) (w.alloc (.cells #[.pointer (some t)] 123)):=by kernel_rfl
def nd (a:Addr)(w:Zc):(ReflectliteValue.methodAny (ReflectliteValue.valueError "reflectlite.Value.Type" 0) (fun t _ _ _=>ReflectliteType.toType t) #[.agg #[.pointer (some ⟨1,123,none⟩),.pointer (some a),.int .u64 150]]).run Zd w
  =.ok (.iface 220 (.agg #[.pointer (some ⟨1,123,none⟩)])) w:=by kernel_rfl
def nf (w:Zc):((ReflectliteType.abiMethod fun t=>(fun a:Nat=>ZS ZcH (a:Int))<$>Rtype.kind t) #[.pointer (some ⟨1,123,none⟩)]).run Zd w=.ok (.int .u8 22) w:=by kernel_rfl
def nh (w:Zc):((ReflectliteType.abiMethod fun t=>(fun a:Nat=>ZS ZcH (a:Int))<$>Rtype.kind t) #[.pointer (some ⟨1,121,none⟩)]).run Zd w=.ok (.int .u8 25) w:=by kernel_rfl
def kB (z:Sem Ze)(f:Zr->Addr->Nat->Nat->Sem Ze)(v:Ze):
  ReflectliteValue.method z f #[v]=(do match <-ReflectliteValue.parts v with|none=>z|some (t,a,fl)=>f t a fl (fl % 32)):=rfl
def J2 (a:Addr)(w:Zc):(ReflectliteValue.parts (.agg #[.pointer (some ⟨1,123,none⟩),.pointer (some a),.int .u64 150])).run Zd w=.ok (some (123,a,150)) w:=by kernel_rfl
def gE (a p:Addr)(W:Zc)(ha:W.cell? a=some (.pointer (some p))):
  (ReflectliteValue.method (ReflectliteValue.valueError "reflectlite.Value.IsNil" 0) ReflectliteValue.isNil #[.agg #[.pointer (some ⟨1,123,none⟩),.pointer (some a),.int .u64 150]]).run Zd W=.ok (.bool false) W:=by
 rw[kB];simp only[zm,J2,zB];simp[ReflectliteValue.isNil,loadVar,isAgg,underlying,Za3,ha,zB]
def ni (w:Zc):(ReflectliteType.method ReflectliteType.elem #[.agg #[.pointer (some ⟨1,123,none⟩)]]).run Zd w=.ok (.iface 220 (.agg #[.pointer (some ⟨1,121,none⟩)])) w:=by kernel_rfl
def nj (w:Zc):(ReflectliteType.relation "Implements" ReflectliteType.implements_ #[.agg #[.pointer (some ⟨1,121,none⟩)],.iface 220 (.agg #[.pointer (some ⟨1,117,none⟩)])]).run Zd w=.ok (.bool true) w:=by kernel_rfl
def cQ (v:Ze)(w:Zc):(ReflectliteType.typeOf #[.iface 121 v]).run Zd w=.ok (.iface 220 (.agg #[.pointer (some ⟨1,121,none⟩)])) w:=by kernel_rfl
def cR (w:Zc):(ReflectliteType.relation "AssignableTo" ReflectliteType.assignableTo #[.agg #[.pointer (some ⟨1,121,none⟩)],.iface 220 (.agg #[.pointer (some ⟨1,121,none⟩)])]).run Zd w=.ok (.bool true) w:=by kernel_rfl
def gF (n:Int)(w:Zc):(ReflectliteValue.unpack (.iface 121 (.agg #[.int .i64 n]))).run Zd w
  =.ok (.agg #[.pointer (some ⟨1,121,none⟩),.pointer (some ⟨w.heap.size,0,none⟩),.int .u64 153]) (w.alloc (.cells #[.int .i64 n] 121)):=by kernel_rfl
def Qz (w:Zc):(Rtype.elem? 123).run Zd w=.ok (some 121) w:=by kernel_rfl
def wT (p:Addr)(w:Zc):(ReflectliteValue.mk 121 p ReflectliteValue.flagAddr).run Zd w=.ok (.agg #[.pointer (some ⟨1,121,none⟩),.pointer (some p),.int .u64 409]) w:=by kernel_rfl
def gG (a p:Addr)(W:Zc)(ha:W.cell? a=some (.pointer (some p))):
  (ReflectliteValue.method (ReflectliteValue.valueError "reflectlite.Value.Elem" 0) ReflectliteValue.elem #[.agg #[.pointer (some ⟨1,123,none⟩),.pointer (some a),.int .u64 150]]).run Zd W
   =.ok (.agg #[.pointer (some ⟨1,121,none⟩),.pointer (some p),.int .u64 409]) W:=by
 rw[kB];simp only[zm,J2,zB];simp[ReflectliteValue.elem,loadVar,isAgg,underlying,Za3,ha,zB,Qz,wT]
def aaH (v x:Ze):ReflectliteValue.set #[v,x]=(do
  let(some (dst,a,fl),some (src,b,_)):=(<-ReflectliteValue.parts v, <-ReflectliteValue.parts x)
   |unsupported (.noEntry "extern/(internal/reflectlite.Value).Set.zeroValue")
  if fl / ReflectliteValue.flagAddr % 2==0 then unsupported (.noEntry "extern/(internal/reflectlite.Value).Set.unaddressable")
  let val <-loadVar src b
  if <-Rtype.directlyAssignable dst src then storeVar dst a val
  else if <-Rtype.implements dst src then
   if(<-Rtype.kind src)==20 then
    match val with
    | .nilIface=>unsupported (.noEntry "extern/reflectlite: a nil value of one interface type handed on as a value of another")
    |_=>storeVar dst a val
   else storeVar dst a (.iface src val)
  else panicString ("reflectlite.Set: value of type " ++(<-Rtype.spelt src)++ " is not assignable to type " ++(<-Rtype.spelt dst))
  pure (.tuple #[])):=rfl
def QA (a:Addr)(w:Zc):(ReflectliteValue.parts (.agg #[.pointer (some ⟨1,121,none⟩),.pointer (some a),.int .u64 409])).run Zd w=.ok (some (121,a,409)) w:=by kernel_rfl
def Tz (a:Addr)(w:Zc):(ReflectliteValue.parts (.agg #[.pointer (some ⟨1,121,none⟩),.pointer (some a),.int .u64 153])).run Zd w=.ok (some (121,a,153)) w:=by kernel_rfl
def QB (w:Zc):(Rtype.directlyAssignable 121 121).run Zd w=.ok true w:=by kernel_rfl
def rH (ta b:Addr)(n:Int)(old:Ze)(W:Zc)(hb:W.cell? b=some (.int .i64 n))(ht:W.cell? ta=some old)(hf:W.frozen? ta=false):
  (ReflectliteValue.set #[.agg #[.pointer (some ⟨1,121,none⟩),.pointer (some ta),.int .u64 409],.agg #[.pointer (some ⟨1,121,none⟩),.pointer (some b),.int .u64 153]]).run Zd W
   =.ok (.tuple #[]) (W.setCell ta (.int .i64 n)):=by
 rw[aaH];simp only[zm,QA,Tz,zB];simp[ReflectliteValue.flagAddr,loadVar,isAgg,underlying,Tryz.underlying121,zB,loadCells,ZdE,Zcz,hb,QB,storeVar,Value.cells,Zb3];rw[run_store Zd W ta _ _ (by rfl)];simp[ht,hf]
def gH (t:Addr)(w:Zc)(es:Array zc):(ReflectliteValue.unpack (.iface 123 (.pointer (some t)))).events Zd w es=es:=by kernel_rfl
def nn (a:Addr)(w:Zc)(es:Array zc):(ReflectliteValue.methodAny (ReflectliteValue.valueError "reflectlite.Value.Type" 0) (fun t _ _ _=>ReflectliteType.toType t) #[.agg #[.pointer (some ⟨1,123,none⟩),.pointer (some a),.int .u64 150]]).events Zd w es=es:=by kernel_rfl
def nu (w:Zc)(es:Array zc):((ReflectliteType.abiMethod fun t=>(fun a:Nat=>ZS ZcH (a:Int))<$>Rtype.kind t) #[.pointer (some ⟨1,123,none⟩)]).events Zd w es=es:=by kernel_rfl
def nv (w:Zc)(es:Array zc):((ReflectliteType.abiMethod fun t=>(fun a:Nat=>ZS ZcH (a:Int))<$>Rtype.kind t) #[.pointer (some ⟨1,121,none⟩)]).events Zd w es=es:=by kernel_rfl
def TA (a:Addr)(w:Zc)(es:Array zc):(ReflectliteValue.parts (.agg #[.pointer (some ⟨1,123,none⟩),.pointer (some a),.int .u64 150])).events Zd w es=es:=by kernel_rfl
def nw (w:Zc)(es:Array zc):(ReflectliteType.method ReflectliteType.elem #[.agg #[.pointer (some ⟨1,123,none⟩)]]).events Zd w es=es:=by kernel_rfl
def ny (w:Zc)(es:Array zc):(ReflectliteType.relation "Implements" ReflectliteType.implements_ #[.agg #[.pointer (some ⟨1,121,none⟩)],.iface 220 (.agg #[.pointer (some ⟨1,117,none⟩)])]).events Zd w es=es:=by kernel_rfl
def cS (v:Ze)(w:Zc)(es:Array zc):(ReflectliteType.typeOf #[.iface 121 v]).events Zd w es=es:=by kernel_rfl
def cT (w:Zc)(es:Array zc):(ReflectliteType.relation "AssignableTo" ReflectliteType.assignableTo #[.agg #[.pointer (some ⟨1,121,none⟩)],.iface 220 (.agg #[.pointer (some ⟨1,121,none⟩)])]).events Zd w es=es:=by kernel_rfl
def gI (n:Int)(w:Zc)(es:Array zc):(ReflectliteValue.unpack (.iface 121 (.agg #[.int .i64 n]))).events Zd w es=es:=by kernel_rfl
def cU (w:Zc)(es:Array zc):(Rtype.elem? 123).events Zd w es=es:=by kernel_rfl
def wU (p:Addr)(w:Zc)(es:Array zc):(ReflectliteValue.mk 121 p ReflectliteValue.flagAddr).events Zd w es=es:=by kernel_rfl
def cV (a:Addr)(w:Zc)(es:Array zc):(ReflectliteValue.parts (.agg #[.pointer (some ⟨1,121,none⟩),.pointer (some a),.int .u64 409])).events Zd w es=es:=by kernel_rfl
def gJ (a:Addr)(w:Zc)(es:Array zc):(ReflectliteValue.parts (.agg #[.pointer (some ⟨1,121,none⟩),.pointer (some a),.int .u64 153])).events Zd w es=es:=by kernel_rfl
def cW (w:Zc)(es:Array zc):(Rtype.directlyAssignable 121 121).events Zd w es=es:=by kernel_rfl
end Go.Proofs.Fit
namespace Go.Proofs.Fit
open Go Go.RowKit Go.Extern.Stop Go.Stop Go.Extern Go.Conc
def gK (a p:Addr)(W:Zc)(es:Array zc)(ha:W.cell? a=some (.pointer (some p))):
  (ReflectliteValue.method (ReflectliteValue.valueError "reflectlite.Value.IsNil" 0) ReflectliteValue.isNil #[.agg #[.pointer (some ⟨1,123,none⟩),.pointer (some a),.int .u64 150]]).events Zd W es=es.push ⟨.cell a,false,false⟩:=by
 rw[kB];simp only[ZcK,J2,TA,ZaF];simp[ReflectliteValue.isNil,loadVar,isAgg,underlying,Za3,ha,ZaF,events_load]
 rfl
def gL (a p:Addr)(W:Zc)(es:Array zc)(ha:W.cell? a=some (.pointer (some p))):
  (ReflectliteValue.method (ReflectliteValue.valueError "reflectlite.Value.Elem" 0) ReflectliteValue.elem #[.agg #[.pointer (some ⟨1,123,none⟩),.pointer (some a),.int .u64 150]]).events Zd W es=es.push ⟨.cell a,false,false⟩:=by
 rw[kB];simp only[ZcK,J2,TA,ZaF];simp[ReflectliteValue.elem,loadVar,isAgg,underlying,Za3,ha,ZaF,events_load,Qz,cU,wU]
 rfl
def rI (ta b:Addr)(n:Int)(old:Ze)(W:Zc)(es:Array zc)(hb:W.cell? b=some (.int .i64 n))(ht:W.cell? ta=some old)(hf:W.frozen? ta=false):
  (ReflectliteValue.set #[.agg #[.pointer (some ⟨1,121,none⟩),.pointer (some ta),.int .u64 409],.agg #[.pointer (some ⟨1,121,none⟩),.pointer (some b),.int .u64 153]]).events Zd W es
   =(es.push ⟨.cell b,false,false⟩).push ⟨.cell ta,true,false⟩:=by
 rw[aaH];simp only[ZcK,QA,Tz,cV,gJ,ZaF];simp[ReflectliteValue.flagAddr,loadVar,isAgg,underlying,Tryz.underlying121,ZaF,loadCells,ZdE,Zcz,hb,QB,cW,storeVar,Value.cells,Zb3,events_load];rw[events_store _ _ _ ta _ _ rfl];simp[ht,hf]
 rfl
end Go.Proofs.Fit
set_option linter.unusedSimpArgs false
namespace Go.Proofs.Fit
open Go Go.Conc Go.ConcX Go.RowKit Go.Conc.Lib Go.ConcX.Gen Go.Extern
variable {Shun:Loc->Prop}
variable {B f t k b c i:Nat}
def Bu {wr sy:Bool}:EvL Shun B ⟨.mark (.extern f),wr,sy⟩:=by
 refine⟨fun x hx _=>?_,by simp,by simp,?_⟩
 .simp[ZY,Yn]at hx
 .simp[ZY,Zcj]
def kC (a0 a1:Ze)(cs:List ZT):Go.FO.AV (Zq Zd 91 #[a0,a1] .normal) cs=G ((base 91).at ⟨#[a0,a1,Zf,Zf,Zf,Zf,Zf,Zf,Zf,Zf,Zf,Zf,Zf,Zf,Zf,Zf,Zf,Zf,Zf,Zf,Zf,Zf,Zf,Zf,Zf,Zf,Zf,Zf,Zf,Zf,Zf,Zf,Zf,Zf,Zf,Zf,Zf,Zf,Zf,Zf,Zf,Zf],[]⟩ [.code (Tryz.f91.body.getD .skip)]) cs:=by
 simp[Go.FO.AV,G,Zq,Frame.at,base,ZdW,Y0]
def aix (w:Zc)(es:Array zc):(binOp .eql 117 .nilIface .nilIface).events Zd w es=es:=by kernel_rfl
def aiy (n:Int)(w:Zc):(binOp .eql 117 (.iface 121 (.agg #[.int .i64 n])) .nilIface).run Zd w=.ok (.bool false) w:=by kernel_rfl
def ad3 (n:Int)(w:Zc)(es:Array zc):(binOp .eql 117 (.iface 121 (.agg #[.int .i64 n])) .nilIface).events Zd w es=es:=by kernel_rfl
def aiz (a:Addr)(w:Zc):(binOp .eql 20 (.iface 123 (.pointer (some a))) .nilIface).run Zd w=.ok (.bool false) w:=by kernel_rfl
def ad4 (a:Addr)(w:Zc)(es:Array zc):(binOp .eql 20 (.iface 123 (.pointer (some a))) .nilIface).events Zd w es=es:=by kernel_rfl
def aiA (w:Zc):(binOp .neq 190 (.int .u8 22) (.int .u8 22)).run Zd w=.ok (.bool false) w:=by kernel_rfl
def ad5 (w:Zc)(es:Array zc):(binOp .neq 190 (.int .u8 22) (.int .u8 22)).events Zd w es=es:=by kernel_rfl
def aiB (w:Zc):(binOp .neq 190 (.int .u8 25) (.int .u8 20)).run Zd w=.ok (.bool true) w:=by kernel_rfl
def ad6 (w:Zc)(es:Array zc):(binOp .neq 190 (.int .u8 25) (.int .u8 20)).events Zd w es=es:=by kernel_rfl
variable {W W2 w:Zc}
variable {f':ZT}
variable {cs:List ZT}
def cY {t:Ze}:
  Goes Zd true Zcy (DE (EvL Shun B)) (fun g w=>g=G (f'.finish (.bool false)) cs/\∃d,w=W.at d) 20 (Go.FO.AV (Zq Zd 91 #[.nilIface,t] .normal) (f'::cs)) W:=by
 rw[kC];have hb:=aix;simp only[Y0,Zx]
 l_c Zo
 l_reg
 l_op
 l_c Zh
 l_c Zo
 l_c Zo
 l_reg
 l_op
 l_op
 l_c Zh
 l_cond true
 l_c Zo
 l_reg
 l_op
 l_c Zh
 l_c Yf
 refine Goes.step rfl (fun w₁ BV=>?_);obtain⟨dd,Qo⟩:=BV;subst Qo;rw[stepG_leave (v:=.bool false) (fn:=Y0) rfl rfl ZdW (results_tmp ZbQ _ _ _) (ZdU ZbQ _ _)];simp only[goes_go];refine⟨by u_nil,?_⟩;refine Z2 (fun w₁ BV=>?_);obtain⟨d,hd⟩:=BV;subst hd;exact⟨rfl,d,rfl⟩
end Go.Proofs.Fit
namespace Go.Proofs.Fit
open Go Go.Conc Go.RowKit Go.Extern
def aiC (args:Array Ze)(w:Zc):(ZB 146 args).run Zd w=(((fun args=>ReflectliteValue.unpack (args.getD 0 (.tuple #[]))) args).run Zd w).andThen fun v w'=>.ok (.value v) w':=
 @run_callFunc_extern Zd 146 _ (fun args=>ReflectliteValue.unpack (args.getD 0 (.tuple #[]))) Tryz.func146 (by kernel_rfl) (by kernel_rfl) (by kernel_rfl) (by kernel_rfl) args w
def d146 (args:Array Ze)(w:Zc)(es:Array zc):(ZB 146 args).events Zd w es=((fun args=>ReflectliteValue.unpack (args.getD 0 (.tuple #[]))) args).events Zd w (es.push ⟨.mark (.extern 146),false,true⟩):=
 @events_callFunc_extern Zd w 146 _ (fun args=>ReflectliteValue.unpack (args.getD 0 (.tuple #[]))) Tryz.func146 (by kernel_rfl) (by kernel_rfl) (by kernel_rfl) (by kernel_rfl) args es
def ao7 (args:Array Ze)(w:Zc):(ZB 147 args).run Zd w=(((ReflectliteValue.methodAny (ReflectliteValue.valueError "reflectlite.Value.Type" 0) (fun t _ _ _=>ReflectliteType.toType t)) args).run Zd w).andThen fun v w'=>.ok (.value v) w':=
 @run_callFunc_extern Zd 147 _ (ReflectliteValue.methodAny (ReflectliteValue.valueError "reflectlite.Value.Type" 0) (fun t _ _ _=>ReflectliteType.toType t)) Tryz.func147 (by kernel_rfl) (by kernel_rfl) (by kernel_rfl) (by kernel_rfl) args w
def d147 (args:Array Ze)(w:Zc)(es:Array zc):(ZB 147 args).events Zd w es=((ReflectliteValue.methodAny (ReflectliteValue.valueError "reflectlite.Value.Type" 0) (fun t _ _ _=>ReflectliteType.toType t)) args).events Zd w (es.push ⟨.mark (.extern 147),false,true⟩):=
 @events_callFunc_extern Zd w 147 _ (ReflectliteValue.methodAny (ReflectliteValue.valueError "reflectlite.Value.Type" 0) (fun t _ _ _=>ReflectliteType.toType t)) Tryz.func147 (by kernel_rfl) (by kernel_rfl) (by kernel_rfl) (by kernel_rfl) args es
def ao8 (args:Array Ze)(w:Zc):(ZB 148 args).run Zd w=(((ReflectliteValue.method (ReflectliteValue.valueError "reflectlite.Value.IsNil" 0) ReflectliteValue.isNil) args).run Zd w).andThen fun v w'=>.ok (.value v) w':=
 @run_callFunc_extern Zd 148 _ (ReflectliteValue.method (ReflectliteValue.valueError "reflectlite.Value.IsNil" 0) ReflectliteValue.isNil) Tryz.func148 (by kernel_rfl) (by kernel_rfl) (by kernel_rfl) (by kernel_rfl) args w
def d148 (args:Array Ze)(w:Zc)(es:Array zc):(ZB 148 args).events Zd w es=((ReflectliteValue.method (ReflectliteValue.valueError "reflectlite.Value.IsNil" 0) ReflectliteValue.isNil) args).events Zd w (es.push ⟨.mark (.extern 148),false,true⟩):=
 @events_callFunc_extern Zd w 148 _ (ReflectliteValue.method (ReflectliteValue.valueError "reflectlite.Value.IsNil" 0) ReflectliteValue.isNil) Tryz.func148 (by kernel_rfl) (by kernel_rfl) (by kernel_rfl) (by kernel_rfl) args es
def aiD (args:Array Ze)(w:Zc):(ZB 207 args).run Zd w=(((ReflectliteType.abiMethod fun t=>do pure (.int .u8 (<-Rtype.kind t))) args).run Zd w).andThen fun v w'=>.ok (.value v) w':=
 @run_callFunc_extern Zd 207 _ (ReflectliteType.abiMethod fun t=>do pure (.int .u8 (<-Rtype.kind t))) Tryz.func207 (by kernel_rfl) (by kernel_rfl) (by kernel_rfl) (by kernel_rfl) args w
def d207 (args:Array Ze)(w:Zc)(es:Array zc):(ZB 207 args).events Zd w es=((ReflectliteType.abiMethod fun t=>do pure (.int .u8 (<-Rtype.kind t))) args).events Zd w (es.push ⟨.mark (.extern 207),false,true⟩):=
 @events_callFunc_extern Zd w 207 _ (ReflectliteType.abiMethod fun t=>do pure (.int .u8 (<-Rtype.kind t))) Tryz.func207 (by kernel_rfl) (by kernel_rfl) (by kernel_rfl) (by kernel_rfl) args es
def ao9 (args:Array Ze)(w:Zc):(ZB 218 args).run Zd w=(((ReflectliteType.method ReflectliteType.elem) args).run Zd w).andThen fun v w'=>.ok (.value v) w':=
 @run_callFunc_extern Zd 218 _ (ReflectliteType.method ReflectliteType.elem) Tryz.func218 (by kernel_rfl) (by kernel_rfl) (by kernel_rfl) (by kernel_rfl) args w
def d218 (args:Array Ze)(w:Zc)(es:Array zc):(ZB 218 args).events Zd w es=((ReflectliteType.method ReflectliteType.elem) args).events Zd w (es.push ⟨.mark (.extern 218),false,true⟩):=
 @events_callFunc_extern Zd w 218 _ (ReflectliteType.method ReflectliteType.elem) Tryz.func218 (by kernel_rfl) (by kernel_rfl) (by kernel_rfl) (by kernel_rfl) args es
def aoa (args:Array Ze)(w:Zc):(ZB 219 args).run Zd w=(((ReflectliteType.relation "Implements" ReflectliteType.implements_) args).run Zd w).andThen fun v w'=>.ok (.value v) w':=
 @run_callFunc_extern Zd 219 _ (ReflectliteType.relation "Implements" ReflectliteType.implements_) Tryz.func219 (by kernel_rfl) (by kernel_rfl) (by kernel_rfl) (by kernel_rfl) args w
def d219 (args:Array Ze)(w:Zc)(es:Array zc):(ZB 219 args).events Zd w es=((ReflectliteType.relation "Implements" ReflectliteType.implements_) args).events Zd w (es.push ⟨.mark (.extern 219),false,true⟩):=
 @events_callFunc_extern Zd w 219 _ (ReflectliteType.relation "Implements" ReflectliteType.implements_) Tryz.func219 (by kernel_rfl) (by kernel_rfl) (by kernel_rfl) (by kernel_rfl) args es
def aob (args:Array Ze)(w:Zc):(ZB 163 args).run Zd w=((ReflectliteType.typeOf args).run Zd w).andThen fun v w'=>.ok (.value v) w':=
 @run_callFunc_extern Zd 163 _ ReflectliteType.typeOf Tryz.func163 (by kernel_rfl) (by kernel_rfl) (by kernel_rfl) (by kernel_rfl) args w
def d163 (args:Array Ze)(w:Zc)(es:Array zc):(ZB 163 args).events Zd w es=(ReflectliteType.typeOf args).events Zd w (es.push ⟨.mark (.extern 163),false,true⟩):=
 @events_callFunc_extern Zd w 163 _ ReflectliteType.typeOf Tryz.func163 (by kernel_rfl) (by kernel_rfl) (by kernel_rfl) (by kernel_rfl) args es
def aoc (args:Array Ze)(w:Zc):(ZB 216 args).run Zd w=(((ReflectliteType.relation "AssignableTo" ReflectliteType.assignableTo) args).run Zd w).andThen fun v w'=>.ok (.value v) w':=
 @run_callFunc_extern Zd 216 _ (ReflectliteType.relation "AssignableTo" ReflectliteType.assignableTo) Tryz.func216 (by kernel_rfl) (by kernel_rfl) (by kernel_rfl) (by kernel_rfl) args w
def d216 (args:Array Ze)(w:Zc)(es:Array zc):(ZB 216 args).events Zd w es=((ReflectliteType.relation "AssignableTo" ReflectliteType.assignableTo) args).events Zd w (es.push ⟨.mark (.extern 216),false,true⟩):=
 @events_callFunc_extern Zd w 216 _ (ReflectliteType.relation "AssignableTo" ReflectliteType.assignableTo) Tryz.func216 (by kernel_rfl) (by kernel_rfl) (by kernel_rfl) (by kernel_rfl) args es
def aod (args:Array Ze)(w:Zc):(ZB 164 args).run Zd w=(((ReflectliteValue.method (ReflectliteValue.valueError "reflectlite.Value.Elem" 0) ReflectliteValue.elem) args).run Zd w).andThen fun v w'=>.ok (.value v) w':=
 @run_callFunc_extern Zd 164 _ (ReflectliteValue.method (ReflectliteValue.valueError "reflectlite.Value.Elem" 0) ReflectliteValue.elem) Tryz.func164 (by kernel_rfl) (by kernel_rfl) (by kernel_rfl) (by kernel_rfl) args w
def d164 (args:Array Ze)(w:Zc)(es:Array zc):(ZB 164 args).events Zd w es=((ReflectliteValue.method (ReflectliteValue.valueError "reflectlite.Value.Elem" 0) ReflectliteValue.elem) args).events Zd w (es.push ⟨.mark (.extern 164),false,true⟩):=
 @events_callFunc_extern Zd w 164 _ (ReflectliteValue.method (ReflectliteValue.valueError "reflectlite.Value.Elem" 0) ReflectliteValue.elem) Tryz.func164 (by kernel_rfl) (by kernel_rfl) (by kernel_rfl) (by kernel_rfl) args es
def aoe (args:Array Ze)(w:Zc):(ZB 165 args).run Zd w=((ReflectliteValue.set args).run Zd w).andThen fun v w'=>.ok (.value v) w':=
 @run_callFunc_extern Zd 165 _ ReflectliteValue.set Tryz.func165 (by kernel_rfl) (by kernel_rfl) (by kernel_rfl) (by kernel_rfl) args w
def d165 (args:Array Ze)(w:Zc)(es:Array zc):(ZB 165 args).events Zd w es=(ReflectliteValue.set args).events Zd w (es.push ⟨.mark (.extern 165),false,true⟩):=
 @events_callFunc_extern Zd w 165 _ ReflectliteValue.set Tryz.func165 (by kernel_rfl) (by kernel_rfl) (by kernel_rfl) (by kernel_rfl) args es
end Go.Proofs.Fit
namespace Go.Proofs.Fit
open Go Go.RowKit Go.Extern
def rJ (h:Ze)(w:Zc):(Zbb 383 220 (.agg #[h]) "Kind").run Zd w=.ok (207,h) w:=by kernel_rfl
def ad7 (h:Ze)(w:Zc):(Zbb 383 220 (.agg #[h]) "Elem").run Zd w=.ok (218,.agg #[h]) w:=by kernel_rfl
def ad8 (h:Ze)(w:Zc):(Zbb 383 220 (.agg #[h]) "Implements").run Zd w=.ok (219,.agg #[h]) w:=by kernel_rfl
def rK (h:Ze)(w:Zc):(Zbb 383 220 (.agg #[h]) "AssignableTo").run Zd w=.ok (216,.agg #[h]) w:=by kernel_rfl
def rL (h:Ze)(w:Zc)(es:Array zc):(Zbb 383 220 (.agg #[h]) "Kind").events Zd w es=es:=by kernel_rfl
def ad9 (h:Ze)(w:Zc)(es:Array zc):(Zbb 383 220 (.agg #[h]) "Elem").events Zd w es=es:=by kernel_rfl
def ada (h:Ze)(w:Zc)(es:Array zc):(Zbb 383 220 (.agg #[h]) "Implements").events Zd w es=es:=by kernel_rfl
def rM (h:Ze)(w:Zc)(es:Array zc):(Zbb 383 220 (.agg #[h]) "AssignableTo").events Zd w es=es:=by kernel_rfl
end Go.Proofs.Fit
set_option linter.unusedSimpArgs false
namespace Go.Proofs.Fit
open Go Go.Conc Go.ConcX Go.RowKit Go.Conc.Lib Go.ConcX.Gen Go.Extern
def hand (t:Nat):Ze:=.pointer (some ⟨1,t,none⟩)
def Lr (m:Nat):Array Ze:= #[hand 123,.pointer (some ⟨m,0,none⟩),.int .u64 150]
structure Va (W W2:Zc)(t k:Nat):Prop where
 size:W2.heap.size=W.heap.size+k
 old:∀b,b<W.heap.size->W2.heap[b]?=W.heap[b]?
 c0:W2.cell? ⟨W.heap.size,0,none⟩=some (.pointer (some ⟨t,0,none⟩))
 b1:W2.heap[W.heap.size+1]?=some (.cells (Lr W.heap.size) 185 (0,0))
 os:W2.os=W.os
 tape:W2.tape=W.tape
 output:W2.output=W.output
def Va.cells {W W2:Zc}{t k:Nat}(h:Va W W2 t k):W2.cell? ⟨W.heap.size+1,0,none⟩=some (hand 123)/\W2.cell? ⟨W.heap.size+1,1,none⟩=some (.pointer (some ⟨W.heap.size,0,none⟩))/\W2.cell? ⟨W.heap.size+1,2,none⟩=some (.int .u64 150):=by
 unfold zG;rw[h.b1];exact⟨rfl,rfl,rfl⟩
variable {W W2 w:Zc}
variable {B f t k b c i:Nat}
def Va.at (h:Va W W2 t k)(d:Nat):Va W (W2.at d) t k:=⟨h.size,h.old,h.c0,h.b1,h.os,h.tape,h.output⟩
def Va.alloc (h:Va W W2 t k)(hk:2<=k)(o:Obj):Va W (W2.alloc o) t (k+1):=by
 have hs:=h.size;have ho:∀b,b<W2.heap.size->(W2.alloc o).heap[b]?=W2.heap[b]? :=fun b hb=>zJ _ _ _ hb;refine⟨by simp[hs];omega,fun b hb=>(ho b (by omega)).trans (h.old b hb),?_,(ho _ (by omega)).trans h.b1,h.os,h.tape,h.output⟩;exact(zs (a:=⟨W.heap.size,0,none⟩) (ho _ (by show W.heap.size<_;omega))).trans h.c0
def rN (W:Zc)(t d:Nat):Va W ((((((W.alloc (.cells #[.pointer (some ⟨t,0,none⟩)] 123)).alloc (.cells #[.pointer none,.pointer none,.int .u64 0] 185)).at d).setCell ⟨W.heap.size+1,0,none⟩ (hand 123)).setCell ⟨W.heap.size+1,1,none⟩ (.pointer (some ⟨W.heap.size,0,none⟩))).setCell ⟨W.heap.size+1,2,none⟩ (.int .u64 150)) t 2:=by
 have hh:∀b,b<W.heap.size+1->((((((W.alloc (.cells #[.pointer (some ⟨t,0,none⟩)] 123)).alloc (.cells #[.pointer none,.pointer none,.int .u64 0] 185)).at d).setCell ⟨W.heap.size+1,0,none⟩ (hand 123)).setCell ⟨W.heap.size+1,1,none⟩ (.pointer (some ⟨W.heap.size,0,none⟩))).setCell ⟨W.heap.size+1,2,none⟩ (.int .u64 150)).heap[b]?=(W.alloc (.cells #[.pointer (some ⟨t,0,none⟩)] 123)).heap[b]? :=fun b hb=>by
  rw[Zab _ _ _ _ (by show b≠W.heap.size+1;omega),Zab _ _ _ _ (by show b≠W.heap.size+1;omega),Zab _ _ _ _ (by show b≠W.heap.size+1;omega)];exact zJ _ _ _ (by simp;omega)
 refine⟨by simp only[zb,Array.size_modify];show((W.alloc _).alloc _).heap.size=_;simp,fun b hb=>?_,?_,?_,rfl,rfl,rfl⟩
 .rw[hh b (by omega),zJ _ _ _ hb]
 .unfold zG
  rw[hh _ (by show W.heap.size<_;omega)];have e:(W.alloc (.cells #[.pointer (some ⟨t,0,none⟩)] 123)).heap[W.heap.size]?=some (.cells #[.pointer (some ⟨t,0,none⟩)] 123 (0,0)):=ZaA;rw[e]
  rfl
 .unfold zb
  have e:((W.alloc (.cells #[.pointer (some ⟨t,0,none⟩)] 123)).alloc (.cells #[.pointer none,.pointer none,.int .u64 0] 185)).heap[W.heap.size+1]?=some (.cells #[.pointer none,.pointer none,.int .u64 0] 185 (0,0)):=by
   have:= @Array.getElem?_push_size _ ((W.alloc (.cells #[.pointer (some ⟨t,0,none⟩)] 123)).heap) (ZbM #[.pointer none,.pointer none,.int .u64 0] 185);have h2:(W.alloc (.cells #[.pointer (some ⟨t,0,none⟩)] 123)).heap.size=W.heap.size+1:=by simp
   rw[h2]at this;exact this
  simp only[Zac,if_pos];show((((W.alloc _).alloc _).heap[W.heap.size+1]?.map _).map _).map _=_;rw[e]
  rfl
def wV (P:Zp)(w:Zc)(es:Array zc)(a:Addr)(m:Mode)(b:Option Addr):(store a (.pointer b) m).events P w es=YE P w es a (.pointer b) m:=events_store P w es a _ m rfl
def KM:Code->Code
 | .seq a _=>a
 |c=>c
def FM:Code->Code
 | .seq _ b=>b
 |c=>c
def XG:Code->Code
 | .block _ c=>c
 | .loop c=>c
 |c=>c
def GD:Code->Array Oper
 | .region _ ops _=>ops
 |_=> #[]
def F7:Code:=Tryz.f91.body.getD .skip
def JA:Code:=FM F7
def JB:Code:=FM JA
def JC:Code:=FM JB
def H4:Code:=FM JC
def H6:Code:=FM H4
def H7:Code:=FM H6
def Fb:Code:=FM H7
def Fc:Code:=FM Fb
def DG:Array Oper:=GD (KM Fc)
variable {Shun:Loc->Prop}
variable {n:Int}
variable {f':ZT}
variable {cs:List ZT}
def aof (hS:∀p:Addr,p.block=0\/p.block=t\/W.heap.size<=p.block->¬Shun (.cell p))(hB:W.heap.size+4<=B):
  Goes Zd true Zcy (DE (EvL Shun B)) (fun g w=>∃v2 v3 v6 v7 v8 v9 v10 v11 RE RF RG RH RI RJ RK RL v20 RM RN RO RP RQ RR RS RU RV v30 RX RY RZ R0 R3 R4 Xi Xj Xk Xl R5 W3,g=G ((base 91).at ⟨#[.iface 121 (.agg #[.int .i64 n]),.iface 123 (.pointer (some ⟨t,0,none⟩)),v2,v3,(.bool false),(.pointer (some ⟨W.heap.size+1,0,none⟩)),v6,v7,v8,v9,v10,v11,RE,RF,RG,RH,RI,RJ,RK,RL,v20,RM,RN,RO,RP,RQ,RR,RS,RU,RV,v30,RX,RY,RZ,R0,R3,R4,Xi,Xj,Xk,Xl,R5],[]⟩ [.code H4]) (f'::cs)/\Va W W3 t 2/\w=W3) 60
   (Go.FO.AV (Zq Zd 91 #[.iface 121 (.agg #[.int .i64 n]),.iface 123 (.pointer (some ⟨t,0,none⟩))] .normal) (f'::cs)) W:=by
 rw[kC];have e1:=ad3;have e2:=ad4;have e3:=aiy;have e4:=aiz;have e7:=wV Zd;simp only[Y0,Zx]
 l_c Zo
 l_reg
 l_op
 l_c Zh
 l_c Zo
 l_c Zo
 l_reg
 l_op
 l_op
 l_c Zh
 l_cond false
 l_c Z3
 l_c Zo
 l_c Zo
 l_reg
 l_op
 l_op
 l_c Zh
 l_cond false
 l_c Z3
 l_c Zo
 l_reg
 l_op
 have z0:=aiC;have z1:=d146;have z2:=gC;have z3:=gH
 l_in
 refine zF rfl rfl (by decide) (fun K hK=>?_)
 go_simp
 refine hK _ _ ⟨fun e he=>?_,?_⟩
 .have hm:=zX he
  simp[go_sem,YE, *]at hm
  (repeat' (rcases hm with hm|hm))
  all_goals (try subst hm)
  all_goals first|exact Bu|exact YP _ _ (hS _ (by simp)) (by show _<B;simp<;>omega)
 clear hK K;clear z0 z1 z2 z3
 i_opw (hS _ (by simp<;>omega))
 l_in
 rename_i dq;refine zF rfl rfl (by decide) (fun K hK=>?_)
 go_simp
 refine hK _ _ ⟨fun e he=>?_,?_⟩
 .have hm:=zX he
  simp[go_sem,YE, *]at hm;rcases hm with rfl|rfl|rfl
  all_goals exact YP _ _ (hS _ (by simp)) (by show W.heap.size+1<B;omega)
 clear hK K;have hV:=rN W t dq;unfold hand at hV;generalize zb (zb (zb _ _ _) _ _) _ _=W2 at hV⊢;clear e1 e2 e3 e4 e7
 l_c Zh
 refine Z2 (fun w₁ BV=>?_);obtain⟨d,hd⟩:=BV;subst hd
 try simp only[hand,Fc,Fb,H7,H6,H4,JC,JB,JA,F7,FM,KM,GD,DG,Y0,Zx]
 exact⟨_,_,_,_,_,_,_,_,_,_,_,_,_,_,_,_,_,_,_,_,_,_,_,_,_,_,_,_,_,_,_,_,_,_,_,_,_,_,_,rfl,hV.at _,rfl⟩
variable {v2 v3 v7 v8 v9 v10 v11 RE RF RG RH RI RJ RK RL v20 RM RN RO RP RQ RR RS RU RV v30 RX RY RZ R0 R3 R4 Xi Xj Xk Xl R5 v x:Ze}
def aog {v6:Ze}(hS:∀p:Addr,p.block=0\/p.block=t\/W.heap.size<=p.block->¬Shun (.cell p))(hB:W.heap.size+4<=B)
 (hV:Va W W2 t 2):Goes Zd true Zcy (DE (EvL Shun B)) (fun g w=>∃v2 v3 v7 v8 v9 v10 v11 RE RF RG RH RI RJ RK RL v20 RM RN RO RP RQ RR RS RU RV v30 RX RY RZ R0 R3 R4 Xi Xj Xk Xl R5 W3,g=G ((base 91).at ⟨#[.iface 121 (.agg #[.int .i64 n]),.iface 123 (.pointer (some ⟨t,0,none⟩)),v2,v3,(.bool false),(.pointer (some ⟨W.heap.size+1,0,none⟩)),(.iface 220 (.agg #[hand 123])),v7,v8,v9,v10,v11,RE,RF,RG,RH,RI,RJ,RK,RL,v20,RM,RN,RO,RP,RQ,RR,RS,RU,RV,v30,RX,RY,RZ,R0,R3,R4,Xi,Xj,Xk,Xl,R5],[]⟩ [.code H6]) (f'::cs)/\Va W W3 t 2/\w=W3) 60
   (G ((base 91).at ⟨#[.iface 121 (.agg #[.int .i64 n]),.iface 123 (.pointer (some ⟨t,0,none⟩)),v2,v3,(.bool false),(.pointer (some ⟨W.heap.size+1,0,none⟩)),v6,v7,v8,v9,v10,v11,RE,RF,RG,RH,RI,RJ,RK,RL,v20,RM,RN,RO,RP,RQ,RR,RS,RU,RV,v30,RX,RY,RZ,R0,R3,R4,Xi,Xj,Xk,Xl,R5],[]⟩ [.code H4]) (f'::cs)) W2:=by
 simp only[hand,Fc,Fb,H7,H6,H4,JC,JB,JA,F7,FM,KM,GD,DG,Y0,Zx];have hA:=hV.cells;unfold hand at hA;obtain⟨q0,q1,q2⟩:=hA;have qp:=hV.c0;have Ek:=hV.size
 l_c Zo
 l_reg
 l_in
 refine zF rfl rfl (by decide) (fun K hK=>?_)
 go_simp
 refine hK _ _ ⟨fun e he=>?_,?_⟩
 .have hm:=zX he
  simp[go_sem,YE, *]at hm
  (repeat' (rcases hm with hm|hm))
  all_goals (try subst hm)
  all_goals first|exact Bu|exact YP _ _ (hS _ (by simp)) (by show _<B;simp<;>omega)
 clear hK K;have z0:=ao7;have z1:=d147;have z2:=nd;have z3:=nn
 l_in
 refine zF rfl rfl (by decide) (fun K hK=>?_)
 go_simp
 refine hK _ _ ⟨fun e he=>?_,?_⟩
 .have hm:=zX he
  simp[go_sem,YE, *]at hm
  (repeat' (rcases hm with hm|hm))
  all_goals (try subst hm)
  all_goals first|exact Bu|exact YP _ _ (hS _ (by simp)) (by show _<B;simp<;>omega)
 clear hK K;clear z0 z1 z2 z3
 l_op
 l_c Zh
 refine Z2 (fun w₁ BV=>?_);obtain⟨d,hd⟩:=BV;subst hd
 try simp only[hand,Fc,Fb,H7,H6,H4,JC,JB,JA,F7,FM,KM,GD,DG,Y0,Zx]
 exact⟨_,_,_,_,_,_,_,_,_,_,_,_,_,_,_,_,_,_,_,_,_,_,_,_,_,_,_,_,_,_,_,_,_,_,_,_,_,_,rfl,hV.at _,rfl⟩
def aoh (hS:∀p:Addr,p.block=0\/p.block=t\/W.heap.size<=p.block->¬Shun (.cell p))(hB:W.heap.size+4<=B)
 (hV:Va W W2 t 2):Goes Zd true Zcy (DE (EvL Shun B)) (fun g w=>∃v2 v3 v7 v8 v9 v10 v11 RE RF RG RH RI RJ RK RL v20 RM RN RO RP RQ RR RS RU RV v30 RX RY RZ R0 R3 R4 Xi Xj Xk Xl R5 W3,g=G ((base 91).at ⟨#[.iface 121 (.agg #[.int .i64 n]),.iface 123 (.pointer (some ⟨t,0,none⟩)),v2,v3,(.bool false),(.pointer (some ⟨W.heap.size+1,0,none⟩)),(.iface 220 (.agg #[hand 123])),v7,v8,v9,v10,v11,RE,RF,RG,RH,RI,RJ,RK,RL,v20,RM,RN,RO,RP,RQ,RR,RS,RU,RV,v30,RX,RY,RZ,R0,R3,R4,Xi,Xj,Xk,Xl,R5],[]⟩ [.code H7]) (f'::cs)/\Va W W3 t 2/\w=W3) 60
   (G ((base 91).at ⟨#[.iface 121 (.agg #[.int .i64 n]),.iface 123 (.pointer (some ⟨t,0,none⟩)),v2,v3,(.bool false),(.pointer (some ⟨W.heap.size+1,0,none⟩)),(.iface 220 (.agg #[hand 123])),v7,v8,v9,v10,v11,RE,RF,RG,RH,RI,RJ,RK,RL,v20,RM,RN,RO,RP,RQ,RR,RS,RU,RV,v30,RX,RY,RZ,R0,R3,R4,Xi,Xj,Xk,Xl,R5],[]⟩ [.code H6]) (f'::cs)) W2:=by
 simp only[hand,Fc,Fb,H7,H6,H4,JC,JB,JA,F7,FM,KM,GD,DG,Y0,Zx];have hA:=hV.cells;unfold hand at hA;obtain⟨q0,q1,q2⟩:=hA;have qp:=hV.c0;have Ek:=hV.size
 l_c Zo
 l_c Zo
 l_reg
 l_op
 have z0:=aiD;have z1:=d207;have z2:=rJ;have z3:=rL;have z4:=nf;have z5:=nu
 l_in
 refine zF rfl rfl (by decide) (fun K hK=>?_)
 go_simp
 refine hK _ _ ⟨fun e he=>?_,?_⟩
 .have hm:=zX he
  simp[go_sem,YE, *]at hm
  (repeat' (rcases hm with hm|hm))
  all_goals (try subst hm)
  all_goals first|exact Bu|exact YP _ _ (hS _ (by simp)) (by show _<B;simp<;>omega)
 clear hK K;clear z0 z1 z2 z3 z4 z5;have e5:=aiA;have e6:=ad5
 l_op
 clear e5 e6
 l_op
 l_in
 refine zF rfl rfl (by decide) (fun K hK=>?_)
 go_simp
 refine hK _ _ ⟨fun e he=>?_,?_⟩
 .have hm:=zX he
  simp[go_sem,YE, *]at hm
  (repeat' (rcases hm with hm|hm))
  all_goals (try subst hm)
  all_goals first|exact Bu|exact YP _ _ (hS _ (by simp)) (by show _<B;simp<;>omega)
 clear hK K;have zi:=gE ⟨W.heap.size,0,none⟩ ⟨t,0,none⟩;have zj:=gK ⟨W.heap.size,0,none⟩ ⟨t,0,none⟩;have z0:=ao8;have z1:=d148
 l_in
 refine zF rfl rfl (by decide) (fun K hK=>?_)
 go_simp
 refine hK _ _ ⟨fun e he=>?_,?_⟩
 .have hm:=zX he
  simp[go_sem,YE, *]at hm
  (repeat' (rcases hm with hm|hm))
  all_goals (try subst hm)
  all_goals first|exact Bu|exact YP _ _ (hS _ (by simp)) (by show _<B;simp<;>omega)
 clear hK K;clear z0 z1;clear zi zj
 l_op
 l_c Zh
 l_cond false
 l_c Z3
 refine Z2 (fun w₁ BV=>?_);obtain⟨d,hd⟩:=BV;subst hd
 try simp only[hand,Fc,Fb,H7,H6,H4,JC,JB,JA,F7,FM,KM,GD,DG,Y0,Zx]
 exact⟨_,_,_,_,_,_,_,_,_,_,_,_,_,_,_,_,_,_,_,_,_,_,_,_,_,_,_,_,_,_,_,_,_,_,_,_,_,_,rfl,hV.at _,rfl⟩
def aoi (hS:∀p:Addr,p.block=0\/p.block=t\/W.heap.size<=p.block->¬Shun (.cell p))(hB:W.heap.size+4<=B)
 (hV:Va W W2 t 2):Goes Zd true Zcy (DE (EvL Shun B)) (fun g w=>∃v2 v3 v8 v9 v10 v11 RE RF RG RH RI RJ RK RL v20 RM RN RO RP RQ RR RS RU RV v30 RX RY RZ R0 R3 R4 Xi Xj Xk Xl R5 W3,g=G ((base 91).at ⟨#[.iface 121 (.agg #[.int .i64 n]),.iface 123 (.pointer (some ⟨t,0,none⟩)),v2,v3,(.bool false),(.pointer (some ⟨W.heap.size+1,0,none⟩)),(.iface 220 (.agg #[hand 123])),(.iface 220 (.agg #[hand 121])),v8,v9,v10,v11,RE,RF,RG,RH,RI,RJ,RK,RL,v20,RM,RN,RO,RP,RQ,RR,RS,RU,RV,v30,RX,RY,RZ,R0,R3,R4,Xi,Xj,Xk,Xl,R5],[]⟩ [.code Fb]) (f'::cs)/\Va W W3 t 2/\w=W3) 60
   (G ((base 91).at ⟨#[.iface 121 (.agg #[.int .i64 n]),.iface 123 (.pointer (some ⟨t,0,none⟩)),v2,v3,(.bool false),(.pointer (some ⟨W.heap.size+1,0,none⟩)),(.iface 220 (.agg #[hand 123])),v7,v8,v9,v10,v11,RE,RF,RG,RH,RI,RJ,RK,RL,v20,RM,RN,RO,RP,RQ,RR,RS,RU,RV,v30,RX,RY,RZ,R0,R3,R4,Xi,Xj,Xk,Xl,R5],[]⟩ [.code H7]) (f'::cs)) W2:=by
 simp only[hand,Fc,Fb,H7,H6,H4,JC,JB,JA,F7,FM,KM,GD,DG,Y0,Zx];have hA:=hV.cells;unfold hand at hA;obtain⟨q0,q1,q2⟩:=hA;have qp:=hV.c0;have Ek:=hV.size
 l_c Zo
 l_reg
 l_op
 have z0:=ao9;have z1:=d218;have z2:=ad7;have z3:=ad9;have z4:=ni;have z5:=nw
 l_in
 refine zF rfl rfl (by decide) (fun K hK=>?_)
 go_simp
 refine hK _ _ ⟨fun e he=>?_,?_⟩
 .have hm:=zX he
  simp[go_sem,YE, *]at hm
  (repeat' (rcases hm with hm|hm))
  all_goals (try subst hm)
  all_goals first|exact Bu|exact YP _ _ (hS _ (by simp)) (by show _<B;simp<;>omega)
 clear hK K;clear z0 z1 z2 z3 z4 z5
 l_op
 l_c Zh
 refine Z2 (fun w₁ BV=>?_);obtain⟨d,hd⟩:=BV;subst hd
 try simp only[hand,Fc,Fb,H7,H6,H4,JC,JB,JA,F7,FM,KM,GD,DG,Y0,Zx]
 exact⟨_,_,_,_,_,_,_,_,_,_,_,_,_,_,_,_,_,_,_,_,_,_,_,_,_,_,_,_,_,_,_,_,_,_,_,_,_,rfl,hV.at _,rfl⟩
def aiE (hS:∀p:Addr,p.block=0\/p.block=t\/W.heap.size<=p.block->¬Shun (.cell p))(hB:W.heap.size+4<=B)(hg:W.cell? ⟨0,0,none⟩=some (.iface 220 (.agg #[hand 117])))
 (hV:Va W W2 t 2):Goes Zd true Zcy (DE (EvL Shun B)) (fun g w=>∃v2 v3 v8 v9 v10 v11 RE RF RG RH RI RJ RK RL v20 RM RN RO RP RQ RR RS RU RV v30 RX RY RZ R0 R3 R4 Xi Xj Xk Xl R5 W3,g=G ((base 91).at ⟨#[.iface 121 (.agg #[.int .i64 n]),.iface 123 (.pointer (some ⟨t,0,none⟩)),v2,v3,(.bool false),(.pointer (some ⟨W.heap.size+1,0,none⟩)),(.iface 220 (.agg #[hand 123])),(.iface 220 (.agg #[hand 121])),v8,v9,v10,v11,RE,RF,RG,RH,RI,RJ,RK,RL,v20,RM,RN,RO,RP,RQ,RR,RS,RU,RV,v30,RX,RY,RZ,R0,R3,R4,Xi,Xj,Xk,Xl,R5],[]⟩ [.code Fc]) (f'::cs)/\Va W W3 t 2/\w=W3) 60
   (G ((base 91).at ⟨#[.iface 121 (.agg #[.int .i64 n]),.iface 123 (.pointer (some ⟨t,0,none⟩)),v2,v3,(.bool false),(.pointer (some ⟨W.heap.size+1,0,none⟩)),(.iface 220 (.agg #[hand 123])),(.iface 220 (.agg #[hand 121])),v8,v9,v10,v11,RE,RF,RG,RH,RI,RJ,RK,RL,v20,RM,RN,RO,RP,RQ,RR,RS,RU,RV,v30,RX,RY,RZ,R0,R3,R4,Xi,Xj,Xk,Xl,R5],[]⟩ [.code Fb]) (f'::cs)) W2:=by
 simp only[hand,Fc,Fb,H7,H6,H4,JC,JB,JA,F7,FM,KM,GD,DG,Y0,Zx];have hA:=hV.cells;unfold hand at hA;obtain⟨q0,q1,q2⟩:=hA;have qp:=hV.c0;have Ek:=hV.size;have XC:W2.cell? ⟨0,0,none⟩=some (.iface 220 (.agg #[.pointer (some ⟨1,117,none⟩)])):=(zs (a:=⟨0,0,none⟩) (hV.old 0 (Zy W _ hg))).trans hg;have h0l:0<W.heap.size:=Zy W _ hg
 l_c Zo
 l_c Zo
 l_reg
 l_op
 have z0:=aiD;have z1:=d207;have z2:=rJ;have z3:=rL;have z4:=nh;have z5:=nv
 l_in
 refine zF rfl rfl (by decide) (fun K hK=>?_)
 go_simp
 refine hK _ _ ⟨fun e he=>?_,?_⟩
 .have hm:=zX he
  simp[go_sem,YE, *]at hm
  (repeat' (rcases hm with hm|hm))
  all_goals (try subst hm)
  all_goals first|exact Bu|exact YP _ _ (hS _ (by simp)) (by show _<B;simp<;>omega)
 clear hK K;clear z0 z1 z2 z3 z4 z5;have e5:=aiB;have e6:=ad6
 l_op
 clear e5 e6
 l_op
 l_op
 l_in
 refine zF rfl rfl (by decide) (fun K hK=>?_)
 go_simp
 refine hK _ _ ⟨fun e he=>?_,?_⟩
 .have hm:=zX he
  simp[go_sem,YE, *]at hm
  (repeat' (rcases hm with hm|hm))
  all_goals (try subst hm)
  all_goals first|exact Bu|exact YP _ _ (hS _ (by simp)) (by show _<B;simp<;>omega)
 clear hK K;have z0:=aoa;have z1:=d219;have z2:=ad8;have z3:=ada;have z4:=nj;have z5:=ny
 l_in
 refine zF rfl rfl (by decide) (fun K hK=>?_)
 go_simp
 refine hK _ _ ⟨fun e he=>?_,?_⟩
 .have hm:=zX he
  simp[go_sem,YE, *]at hm
  (repeat' (rcases hm with hm|hm))
  all_goals (try subst hm)
  all_goals first|exact Bu|exact YP _ _ (hS _ (by simp)) (by show _<B;simp<;>omega)
 clear hK K;clear z0 z1 z2 z3 z4 z5
 l_op
 l_op
 l_c Zh
 l_cond false
 l_c Z3
 refine Z2 (fun w₁ BV=>?_);obtain⟨d,hd⟩:=BV;subst hd
 try simp only[hand,Fc,Fb,H7,H6,H4,JC,JB,JA,F7,FM,KM,GD,DG,Y0,Zx]
 exact⟨_,_,_,_,_,_,_,_,_,_,_,_,_,_,_,_,_,_,_,_,_,_,_,_,_,_,_,_,_,_,_,_,_,_,_,_,_,rfl,hV.at _,rfl⟩
end Go.Proofs.Fit
set_option linter.unusedSimpArgs false
namespace Go.Proofs.Fit
open Go Go.Conc Go.ConcX Go.RowKit Go.Conc.Lib Go.ConcX.Gen Go.Extern
def aiF:(Tryz.f149.name== "runtime.NumGoroutine")=false:=by kernel_rfl
def rO:Code->Code
 | .cond _ a _=>a
 |c=>c
def IC:Code:=Tryz.f149.body.getD .skip
def nz:Code:=XG (XG (XG (FM IC)))
def PH:Code:=rO (FM (KM nz))
def rP:List Item:=[.code (FM nz),.inBlock 1,.inLoop (XG (XG (FM IC))),.inBlock 0]
def rQ (m:Nat)(n:Int)(t:Nat)(v2 v3 v8 v9 v10 v11 RE RF RG RH RI RJ RK RL v20 RM RN RO RP RQ RR RS RU RV v30 RX RY RZ R0 R3 R4 R5:Ze)(rest:List Nat):ZT:=
 (base 91).at ⟨#[.iface 121 (.agg #[.int .i64 n]),.iface 123 (.pointer (some ⟨t,0,none⟩)),v2,v3,(.bool false),(.pointer (some ⟨m+1,0,none⟩)),(.iface 220 (.agg #[hand 123])),(.iface 220 (.agg #[hand 121])),v8,v9,v10,v11,RE,RF,RG,RH,RI,RJ,RK,RL,v20,RM,RN,RO,RP,RQ,RR,RS,RU,RV,v30,RX,RY,RZ,R0,R3,R4,.iface 121 (.agg #[.int .i64 n]),.iface 123 (.pointer (some ⟨t,0,none⟩)),(.agg #[hand 123,.pointer (some ⟨m,0,none⟩),.int .u64 150]),(.iface 220 (.agg #[hand 121])),R5],[]⟩ (.inRegion DG rest:: [.code .ret])
variable {Shun:Loc->Prop}
variable {B f t k b c i:Nat}
variable {W W2 w:Zc}
variable {n:Int}
variable {f':ZT}
variable {cs:List ZT}
variable {v2 v3 v7 v8 v9 v10 v11 RE RF RG RH RI RJ RK RL v20 RM RN RO RP RQ RR RS RU RV v30 RX RY RZ R0 R3 R4 Xi Xj Xk Xl R5 v x:Ze}
def aiG (hS:∀p:Addr,p.block=0\/p.block=t\/W.heap.size<=p.block->¬Shun (.cell p))(hB:W.heap.size+4<=B)
 (hV:Va W W2 t 2):Goes Zd true Zcy (DE (EvL Shun B)) (fun g w=>∃v2 v3 v8 v9 v10 v11 RE RF RG RH RI RJ RK RL v20 RM RN RO RP RQ RR RS RU RV v30 RX RY RZ R0 R3 R4 R5 W3,g=G ((base 149).at ⟨#[.iface 121 (.agg #[.int .i64 n]),.iface 123 (.pointer (some ⟨t,0,none⟩)),(.agg #[hand 123,.pointer (some ⟨W.heap.size,0,none⟩),.int .u64 150]),(.iface 220 (.agg #[hand 121])),Zf,Zf,Zf,Zf,Zf,Zf,Zf,Zf,Zf,Zf,Zf,Zf,Zf,Zf,Zf,Zf,Zf,Zf,Zf,Zf,Zf,Zf,Zf,Zf,Zf,Zf,Zf,Zf,Zf,Zf,Zf,Zf,Zf,Zf,Zf,Zf,Zf,Zf,Zf,Zf,Zf,Zf,Zf,Zf,Zf,Zf,Zf,Zf,Zf,Zf,Zf,Zf,Zf,Zf,Zf,Zf,Zf,Zf],[]⟩ [.code IC]) (rQ W.heap.size n t v2 v3 v8 v9 v10 v11 RE RF RG RH RI RJ RK RL v20 RM RN RO RP RQ RR RS RU RV v30 RX RY RZ R0 R3 R4 R5 [4,5]::f'::cs)/\Va W W3 t 2/\w=W3) 60
   (G ((base 91).at ⟨#[.iface 121 (.agg #[.int .i64 n]),.iface 123 (.pointer (some ⟨t,0,none⟩)),v2,v3,(.bool false),(.pointer (some ⟨W.heap.size+1,0,none⟩)),(.iface 220 (.agg #[hand 123])),(.iface 220 (.agg #[hand 121])),v8,v9,v10,v11,RE,RF,RG,RH,RI,RJ,RK,RL,v20,RM,RN,RO,RP,RQ,RR,RS,RU,RV,v30,RX,RY,RZ,R0,R3,R4,Xi,Xj,Xk,Xl,R5],[]⟩ [.code Fc]) (f'::cs)) W2:=by
 simp only[hand,rQ,Fc,Fb,H7,H6,H4,JC,JB,JA,F7,FM,KM,GD,DG,Y0,Zx];have hA:=hV.cells;unfold hand at hA;obtain⟨q0,q1,q2⟩:=hA;have qp:=hV.c0;have Ek:=hV.size
 l_c Zo
 l_reg
 l_op
 l_op
 l_in
 refine zF rfl rfl (by decide) (fun K hK=>?_)
 go_simp
 refine hK _ _ ⟨fun e he=>?_,?_⟩
 .have hm:=zX he
  simp[go_sem,YE, *]at hm
  (repeat' (rcases hm with hm|hm))
  all_goals (try subst hm)
  all_goals first|exact Bu|exact YP _ _ (hS _ (by simp)) (by show _<B;simp<;>omega)
 clear hK K
 l_op
 l_call Tryz.func149 aiF ZbW
 refine Z2 (fun w₁ BV=>?_);obtain⟨d,hd⟩:=BV;subst hd
 try simp only[hand,rQ,Fc,Fb,H7,H6,H4,JC,JB,JA,F7,FM,KM,GD,DG,Y0,Zx,PH,nz,IC,FM,KM,XG,rO,GD,ZbW,Zx]
 exact⟨_,_,_,_,_,_,_,_,_,_,_,_,_,_,_,_,_,_,_,_,_,_,_,_,_,_,_,_,_,_,_,_,_,rfl,hV.at _,rfl⟩
def aiH (hS:∀p:Addr,p.block=0\/p.block=t\/W.heap.size<=p.block->¬Shun (.cell p))(hB:W.heap.size+4<=B)
 (hV:Va W W2 t 2):Goes Zd true Zcy (DE (EvL Shun B)) (fun g w=>∃u4 u5 u7 u9 u10 u11 u12 u13 u14 u15 u16 u17 u18 u19 u20 u21 u22 u23 u24 u25 u26 u27 u28 u29 u30 u31 u32 u33 u34 u35 u36 u37 u38 u39 u40 u41 u42 u43 u44 u45 u46 u47 u48 u49 u50 u51 u52 u53 u54 u55 u56 u57 u58 u59 u60 u61 W3,g=G ((base 149).at ⟨#[.iface 121 (.agg #[.int .i64 n]),.iface 123 (.pointer (some ⟨t,0,none⟩)),(.agg #[hand 123,.pointer (some ⟨W.heap.size,0,none⟩),.int .u64 150]),(.iface 220 (.agg #[hand 121])),u4,u5,(.pointer (some ⟨W.heap.size+2,0,none⟩)),u7,(.bool false),u9,u10,u11,u12,u13,u14,u15,u16,u17,u18,u19,u20,u21,u22,u23,u24,u25,u26,u27,u28,u29,u30,u31,u32,u33,u34,u35,u36,u37,u38,u39,u40,u41,u42,u43,u44,u45,u46,u47,u48,u49,u50,u51,u52,u53,u54,u55,u56,u57,u58,u59,u60,u61],[]⟩ (.code PH::rP)) cs/\(Va W W3 t 3/\W3.heap[W.heap.size+2]?=some (.cells (Lr W.heap.size) 185 (0,0)))/\w=W3) 60
   (G ((base 149).at ⟨#[.iface 121 (.agg #[.int .i64 n]),.iface 123 (.pointer (some ⟨t,0,none⟩)),(.agg #[hand 123,.pointer (some ⟨W.heap.size,0,none⟩),.int .u64 150]),(.iface 220 (.agg #[hand 121])),Zf,Zf,Zf,Zf,Zf,Zf,Zf,Zf,Zf,Zf,Zf,Zf,Zf,Zf,Zf,Zf,Zf,Zf,Zf,Zf,Zf,Zf,Zf,Zf,Zf,Zf,Zf,Zf,Zf,Zf,Zf,Zf,Zf,Zf,Zf,Zf,Zf,Zf,Zf,Zf,Zf,Zf,Zf,Zf,Zf,Zf,Zf,Zf,Zf,Zf,Zf,Zf,Zf,Zf,Zf,Zf,Zf,Zf],[]⟩ [.code IC]) cs) W2:=by
 simp only[hand,rP,PH,nz,IC,FM,KM,XG,rO,GD,ZbW,Zx];have hA:=hV.cells;unfold hand at hA;obtain⟨q0,q1,q2⟩:=hA;have qp:=hV.c0;have Ek:=hV.size
 l_c Zo
 l_reg
 have hV3:=hV.alloc (Zj _) (.cells (Lr W.heap.size) 185);have Xr:(W2.alloc (.cells (Lr W.heap.size) 185)).heap[W.heap.size+2]?=some (.cells (Lr W.heap.size) 185 (0,0)):=by
  rw[<-Ek];exact ZaA
 unfold Lr hand at hV3 Xr
 l_in
 refine zF rfl rfl (by decide) (fun K hK=>?_)
 go_simp
 refine hK _ _ ⟨fun e he=>?_,?_⟩
 .have hm:=zX he
  simp[go_sem,YE, *]at hm
  (repeat' (rcases hm with hm|hm))
  all_goals (try subst hm)
  all_goals first|exact Bu|exact YP _ _ (hS _ (by simp)) (by show _<B;simp<;>omega)
 clear hK K
 l_op
 l_c Zh
 l_c Zbx
 l_c stepG_loop
 l_c Zbx
 l_c Zo
 l_c Zo
 l_reg
 l_op
 have z0:=aob;have z1:=d163;have z2:=cQ;have z3:=cS
 l_in
 refine zF rfl rfl (by decide) (fun K hK=>?_)
 go_simp
 refine hK _ _ ⟨fun e he=>?_,?_⟩
 .have hm:=zX he
  simp[go_sem,YE, *]at hm
  (repeat' (rcases hm with hm|hm))
  all_goals (try subst hm)
  all_goals first|exact Bu|exact YP _ _ (hS _ (by simp)) (by show _<B;simp<;>omega)
 clear hK K;clear z0 z1 z2 z3
 l_op
 have z0:=aoc;have z1:=d216;have z2:=rK;have z3:=rM;have z4:=cR;have z5:=cT
 l_in
 refine zF rfl rfl (by decide) (fun K hK=>?_)
 go_simp
 refine hK _ _ ⟨fun e he=>?_,?_⟩
 .have hm:=zX he
  simp[go_sem,YE, *]at hm
  (repeat' (rcases hm with hm|hm))
  all_goals (try subst hm)
  all_goals first|exact Bu|exact YP _ _ (hS _ (by simp)) (by show _<B;simp<;>omega)
 clear hK K;clear z0 z1 z2 z3 z4 z5
 l_c Zh
 l_cond true
 refine Z2 (fun w₁ BV=>?_);obtain⟨d,hd⟩:=BV;subst hd
 try simp only[hand,Lr,rP,PH,nz,IC,FM,KM,XG,rO,GD,ZbW,Zx]
 refine⟨_,_,_,_,_,_,_,_,_,_,_,_,_,_,_,_,_,_,_,_,_,_,_,_,_,_,_,_,_,_,_,_,_,_,_,_,_,_,_,_,_,_,_,_,_,_,_,_,_,_,_,_,_,_,_,_,_,rfl,⟨?_,?_⟩,rfl⟩
 .exact hV3.at _
 .exact Xr
def adb {old:Ze}{aiI:ZT}{u4 u5 u7 u9 u10 u11 u12 u13 u14 u15 u16 u17 u18 u19 u20 u21 u22 u23 u24 u25 u26 u27 u28 u29 u30 u31 u32 u33 u34 u35 u36 u37 u38 u39 u40 u41 u42 u43 u44 u45 u46 u47 u48 u49 u50 u51 u52 u53 u54 u55 u56 u57 u58 u59 u60 u61:Ze}(hS:∀p:Addr,p.block=0\/p.block=t\/W.heap.size<=p.block->¬Shun (.cell p))(hB:W.heap.size+4<=B)(ht0:W.cell? ⟨t,0,none⟩=some old)(Cn:W.frozen? ⟨t,0,none⟩=false)
 (hV:Va W W2 t 3) (EA:W2.heap[W.heap.size+2]?=some (.cells (Lr W.heap.size) 185 (0,0))):Goes Zd true Zcy (DE (EvL Shun B)) (fun g w=>g=G (aiI.finish (.bool true)) cs/\∃W4 d,Va W W4 t 4/\w=(W4.setCell ⟨t,0,none⟩ (.int .i64 n)).at d) 60
   (G ((base 149).at ⟨#[.iface 121 (.agg #[.int .i64 n]),.iface 123 (.pointer (some ⟨t,0,none⟩)),(.agg #[hand 123,.pointer (some ⟨W.heap.size,0,none⟩),.int .u64 150]),(.iface 220 (.agg #[hand 121])),u4,u5,(.pointer (some ⟨W.heap.size+2,0,none⟩)),u7,(.bool false),u9,u10,u11,u12,u13,u14,u15,u16,u17,u18,u19,u20,u21,u22,u23,u24,u25,u26,u27,u28,u29,u30,u31,u32,u33,u34,u35,u36,u37,u38,u39,u40,u41,u42,u43,u44,u45,u46,u47,u48,u49,u50,u51,u52,u53,u54,u55,u56,u57,u58,u59,u60,u61],[]⟩ (.code PH::rP)) (aiI::cs)) W2:=by
 have O2:t<W.heap.size:=Zy W _ ht0;have hq:W2.cell? ⟨W.heap.size+2,0,none⟩=some (hand 123)/\W2.cell? ⟨W.heap.size+2,1,none⟩=some (.pointer (some ⟨W.heap.size,0,none⟩))/\W2.cell? ⟨W.heap.size+2,2,none⟩=some (.int .u64 150):=by
  unfold zG;rw[EA];exact⟨rfl,rfl,rfl⟩
 unfold hand at hq;obtain⟨q0,q1,q2⟩:=hq;have qp:=hV.c0;have Ek:=hV.size;have XH:=hV.alloc (by omega) (.cells #[.int .i64 n] 121);have ho:∀b,b<W2.heap.size->(W2.alloc (.cells #[.int .i64 n] 121)).heap[b]?=W2.heap[b]? :=fun b hb=>zJ _ _ _ hb;have hn4:(W2.alloc (.cells #[.int .i64 n] 121)).cell? ⟨W.heap.size+3,0,none⟩=some (.int .i64 n):=by
  rw[<-Ek,World.cell?_alloc_at _ _ _ _ (by simp)];rfl
 have hts:W2.heap[t]?=W.heap[t]? :=hV.old t O2;have ht4:(W2.alloc (.cells #[.int .i64 n] 121)).cell? ⟨t,0,none⟩=some old:=(zs (a:=⟨t,0,none⟩) ((ho t (by omega)).trans hts)).trans ht0;have hf4:(W2.alloc (.cells #[.int .i64 n] 121)).frozen? ⟨t,0,none⟩=false:=(ZdV (a:=⟨t,0,none⟩) ((ho t (by omega)).trans hts)).trans Cn;clear ho hts EA;simp only[hand,rP,PH,nz,IC,FM,KM,XG,rO,GD,ZbW,Zx]
 l_c Zo
 l_reg
 l_in
 refine zF rfl rfl (by decide) (fun K hK=>?_)
 go_simp
 refine hK _ _ ⟨fun e he=>?_,?_⟩
 .have hm:=zX he
  simp[go_sem,YE, *]at hm
  (repeat' (rcases hm with hm|hm))
  all_goals (try subst hm)
  all_goals first|exact Bu|exact YP _ _ (hS _ (by simp)) (by show _<B;simp<;>omega)
 clear hK K;have zi:=gG ⟨W.heap.size,0,none⟩ ⟨t,0,none⟩;have zj:=gL ⟨W.heap.size,0,none⟩ ⟨t,0,none⟩;have z0:=aod;have z1:=d164
 l_in
 refine zF rfl rfl (by decide) (fun K hK=>?_)
 go_simp
 refine hK _ _ ⟨fun e he=>?_,?_⟩
 .have hm:=zX he
  simp[go_sem,YE, *]at hm
  (repeat' (rcases hm with hm|hm))
  all_goals (try subst hm)
  all_goals first|exact Bu|exact YP _ _ (hS _ (by simp)) (by show _<B;simp<;>omega)
 clear hK K;clear z0 z1;clear zi zj
 l_op
 have z0:=aiC;have z1:=d146;have z2:=gF;have z3:=gI
 l_in
 refine zF rfl rfl (by decide) (fun K hK=>?_)
 go_simp
 refine hK _ _ ⟨fun e he=>?_,?_⟩
 .have hm:=zX he
  simp[go_sem,YE, *]at hm
  (repeat' (rcases hm with hm|hm))
  all_goals (try subst hm)
  all_goals first|exact Bu|exact YP _ _ (hS _ (by simp)) (by show _<B;simp<;>omega)
 clear hK K;clear z0 z1 z2 z3;simp only[alloc_at,at_at];generalize ZaE W2 _=W4 at XH hn4 ht4 hf4⊢;have zi:=fun d=>rH ⟨t,0,none⟩ ⟨W.heap.size+3,0,none⟩ n old (W4.at d) hn4 ht4 hf4;have zj:=fun d es=>rI ⟨t,0,none⟩ ⟨W.heap.size+3,0,none⟩ n old (W4.at d) es hn4 ht4 hf4;have z0:=aoe;have z1:=d165
 l_in
 refine zF rfl rfl (by decide) (fun K hK=>?_)
 go_simp
 refine hK _ _ ⟨fun e he=>?_,?_⟩
 .have hm:=zX he
  simp[go_sem,YE, *]at hm
  (repeat' (rcases hm with hm|hm))
  all_goals (try subst hm)
  all_goals first|exact Bu|exact YP _ _ (hS _ (by simp)) (by show _<B;simp<;>omega)
 clear hK K;clear z0 z1;clear zi zj
 l_c Zh
 l_c Zo
 l_reg
 l_op
 l_c Zh
 l_c Yf
 refine Goes.step rfl (fun w₁ BV=>?_);obtain⟨dd,Qo⟩:=BV;subst Qo;rw[stepG_leave (v:=.bool true) (fn:=ZbW) rfl rfl Tryz.func149 (results_tmp Tryz.results149 _ _ _) (ZdU Tryz.results149 _ _)];simp only[goes_go];refine⟨by u_nil,?_⟩;refine Z2 (fun w₁ BV=>?_);obtain⟨d,hd⟩:=BV;subst hd;exact⟨rfl,W4,_,XH,rfl⟩
def ade {m:Nat}:
  Goes Zd true Zcy (DE (EvL Shun B)) (fun g w=>g=G (f'.finish (.bool true)) cs/\∃d,w=W.at d) 20
   (G ((rQ m n t v2 v3 v8 v9 v10 v11 RE RF RG RH RI RJ RK RL v20 RM RN RO RP RQ RR RS RU RV v30 RX RY RZ R0 R3 R4 R5 [4,5]).finish (.bool true)) (f'::cs)) W:=by
 simp only[hand,rQ,Fc,Fb,H7,H6,H4,JC,JB,JA,F7,FM,KM,GD,DG,Y0,Zx];rw[Frame.finish_at]
 walk_nrm
 l_op
 l_c Zh
 l_c Yf
 refine Goes.step rfl (fun w₁ BV=>?_);obtain⟨dd,Qo⟩:=BV;subst Qo;rw[stepG_leave (v:=.bool true) (fn:=Y0) rfl rfl ZdW (results_tmp ZbQ _ _ _) (ZdU ZbQ _ _)];simp only[goes_go];refine⟨by u_nil,?_⟩;refine Z2 (fun w₁ BV=>?_);obtain⟨d,hd⟩:=BV;subst hd;exact⟨rfl,d,rfl⟩
end Go.Proofs.Fit
namespace Go.Proofs.Fit
open Go Go.Conc Go.FO Go.RowKit
section
variable {Shun:Loc->Prop}{B:Nat}{W:Zc}{n:Int}{t:Nat}{old:Ze}{f':ZT}{cs:List ZT}{gs:Array Zi}{tr:Y8}{q:Nat->Nat}{sl:Option (Nat×Nat)}
def gM {tv:Ze}(hX:Lone Zd Shun B (AV (Zq Zd 91 #[.nilIface,tv] .normal) (f'::cs)) gs tr q):
  ∃N gs' w' Jm t' q',ZaI Zd N (Ys gs W sl) tr=(.next (Ys gs' w' Jm),t')/\Lone Zd Shun B (AV (f'.finish (.bool false)) cs) gs' t' q'/\∃d,w'=W.at d:=by
 obtain⟨N,gs',a',w',Jm,t',q',h1,⟨rfl,d,rfl⟩,h3⟩:=Cl (sl:=sl) (fun _ _ _ h=>h) hX (cY (Shun:=Shun) (B:=B) (W:=W));exact⟨N,gs',_,Jm,t',q',h1,h3,d,rfl⟩
def gO (hX:Lone Zd Shun B (AV (Zq Zd 91 #[.iface 121 (.agg #[.int .i64 n]),.iface 123 (.pointer (some ⟨t,0,none⟩))] .normal) (f'::cs)) gs tr q)
 (hS:∀p:Addr,p.block=0\/p.block=t\/W.heap.size<=p.block->¬Shun (.cell p)) (hB:W.heap.size+4<=B) (hg:W.cell? ⟨0,0,none⟩=some (.iface 220 (.agg #[hand 117]))) (ht0:W.cell? ⟨t,0,none⟩=some old) (Cn:W.frozen? ⟨t,0,none⟩=false):
  ∃N gs' w' Jm t' q',ZaI Zd N (Ys gs W sl) tr=(.next (Ys gs' w' Jm),t')/\Lone Zd Shun B (AV (f'.finish (.bool true)) cs) gs' t' q'/\∃W4 d,Va W W4 t 4/\w'=(W4.setCell ⟨t,0,none⟩ (.int .i64 n)).at d:=by
 obtain⟨N0,gs0,a0,w0,sl0,t0,q0,r0,h0,X0⟩:=Cl (sl:=sl) (fun _ _ _ h=>h) hX (aof (Shun:=Shun) (B:=B) (W:=W) (n:=n) (t:=t) hS hB);obtain⟨_,_,_,_,_,_,_,_,_,_,_,_,_,_,_,_,_,_,_,_,_,_,_,_,_,_,_,_,_,_,_,_,_,_,_,_,_,_,V0,rfl,hV0,rfl⟩:=h0;obtain⟨N1,gs1,a1,w1,sl1,t1,q1,r1,h1,X1⟩:=Cl (sl:=sl0) (fun _ _ _ h=>h) X0 (aog (Shun:=Shun) (B:=B) (W:=W) (n:=n) (t:=t) hS hB hV0);obtain⟨_,_,_,_,_,_,_,_,_,_,_,_,_,_,_,_,_,_,_,_,_,_,_,_,_,_,_,_,_,_,_,_,_,_,_,_,_,V1,rfl,hV1,rfl⟩:=h1;obtain⟨N2,gs2,a2,w2,sl2,t2,q2,r2,h2,X2⟩:=Cl (sl:=sl1) (fun _ _ _ h=>h) X1 (aoh (Shun:=Shun) (B:=B) (W:=W) (n:=n) (t:=t) hS hB hV1);obtain⟨_,_,_,_,_,_,_,_,_,_,_,_,_,_,_,_,_,_,_,_,_,_,_,_,_,_,_,_,_,_,_,_,_,_,_,_,_,V2,rfl,jU,rfl⟩:=h2;obtain⟨N3,gs3,a3,w3,sl3,t3,q3,r3,h3,X3⟩:=Cl (sl:=sl2) (fun _ _ _ h=>h) X2 (aoi (Shun:=Shun) (B:=B) (W:=W) (n:=n) (t:=t) hS hB jU);obtain⟨_,_,_,_,_,_,_,_,_,_,_,_,_,_,_,_,_,_,_,_,_,_,_,_,_,_,_,_,_,_,_,_,_,_,_,_,V3,rfl,hV3,rfl⟩:=h3;obtain⟨N4,gs4,a4,w4,sl4,t4,q4,r4,h4,X4⟩:=Cl (sl:=sl3) (fun _ _ _ h=>h) X3 (aiE (Shun:=Shun) (B:=B) (W:=W) (n:=n) (t:=t) hS hB hg hV3);obtain⟨_,_,_,_,_,_,_,_,_,_,_,_,_,_,_,_,_,_,_,_,_,_,_,_,_,_,_,_,_,_,_,_,_,_,_,_,V4,rfl,XH,rfl⟩:=h4;obtain⟨N5,gs5,a5,w5,sl5,t5,q5,r5,h5,X5⟩:=Cl (sl:=sl4) (fun _ _ _ h=>h) X4 (aiG (Shun:=Shun) (B:=B) (W:=W) (n:=n) (t:=t) hS hB XH);obtain⟨_,_,_,_,_,_,_,_,_,_,_,_,_,_,_,_,_,_,_,_,_,_,_,_,_,_,_,_,_,_,_,_,V5,rfl,hV5,rfl⟩:=h5;obtain⟨N6,gs6,a6,w6,sl6,t6,q6,r6,h6,X6⟩:=Cl (sl:=sl5) (fun _ _ _ h=>h) X5 (aiH (Shun:=Shun) (B:=B) (W:=W) (n:=n) (t:=t) hS hB hV5);obtain⟨_,_,_,_,_,_,_,_,_,_,_,_,_,_,_,_,_,_,_,_,_,_,_,_,_,_,_,_,_,_,_,_,_,_,_,_,_,_,_,_,_,_,_,_,_,_,_,_,_,_,_,_,_,_,_,_,V6,rfl,⟨hV6,Xt⟩,rfl⟩:=h6;obtain⟨N7,gs7,a7,w7,sl7,t7,q7,r7,⟨rfl,W4,d,ER,rfl⟩,X7⟩:=Cl (sl:=sl6) (fun _ _ _ h=>h) X6 (adb (Shun:=Shun) (B:=B) (W:=W) (n:=n) (t:=t) hS hB ht0 Cn hV6 Xt);obtain⟨N8,gs8,a8,w8,sl8,t8,q8,r8,⟨rfl,d8,rfl⟩,X8⟩:=Cl (sl:=sl7) (fun _ _ _ h=>h) X7 (ade (Shun:=Shun) (B:=B));have BD:∀ {N M:Nat} {x y z:Machine} {t El Iq:Y8},ZaI Zd N x t=(.next y,El)->ZaI Zd M y El=(.next z,Iq)->ZaI Zd (N+M) x t=(.next z,Iq):=fun h k=>by rw[Go.FO.runNT_add _ _ _ _ _ _ h];exact k
 exact⟨_,gs8,_,sl8,t8,q8,BD r0 (BD r1 (BD r2 (BD r3 (BD r4 (BD r5 (BD r6 (BD r7 r8))))))),X8,W4,d8,ER,rfl⟩
end
def aiL (t:Array Ze)(h:t.size=2):∃a0 a1,t= #[a0,a1]:=by
 obtain⟨l⟩:=t
 match l,h with
 | [a0,a1],_=>exact⟨a0,a1,rfl⟩
section
variable {B:Ik}{fn:Func}{Post:Ze->Zc->Prop}{ρ:Ren}{f f':ZT}{cs cs':List ZT}{w:Zc}
variable {P:Zp}
variable {a:Array Ze}
def aiM (hl:B.lcs=[De Lp])(KF:B.K.seg=false)(hb:Dk Post)(E:Env Lp P ρ)(hS:Gr Lp P B ρ (f::cs) (f'::cs'))(hw:∃w',WR ρ w w')(ha:a.size=2)(hM:CE Lp B true (EN Lp B fn Post PX) (AV (Zq Lp 91 a .normal) (f::cs)) w):
  ∃err cL,a= #[err,cL]/\aav w.heap.size w err cL:=by
 obtain⟨e,t,rfl⟩:=aiL a ha;have hc:=Py e t (tp w fun _ _=>0) (by show((((zS 1 0 3).cut 0:Nat):Int)==1)=true;decide);obtain⟨w₂,y,PG,o_,mB⟩:=Tr hl KF hb E hS hw hM hc;rcases PG with⟨gc,la,ln,lc,sv,b,rows,fit,y',e',h⟩|⟨err,cL,b,y',e',h⟩
 .exfalso
  have:=congrArg Array.size (Ot e');simp at this
 .have e4:=congrArg ZbI (Ot e')
  obtain⟨e1,e5⟩:=zV e4;obtain⟨e2,e6⟩:=zV e5;have e8:=Ts (zV e6).1;have e9:(tp w fun _ _=>0).heap.size=w.heap.size:=rfl;rw[e9]at e8;subst e1 e2 e8;obtain⟨h1,tt,n,h2,h3,h4,h5,h6⟩:=h;exact⟨_,_,rfl,h1,tt,n,h2,h3,mB _ _ _ _ h3 h4,h5,o_ _ _ h5 h6⟩
def gP (hl:B.lcs=[De Lp])(hb:Dk Post)(Kv:B.lcs.length<(f::cs).length){cL:Ze}(hM:CE Lp B true (EN Lp B fn Post PX) (AV (Zq Lp 91 #[.nilIface,cL] .normal) (f::cs)) w):
  ∃w₁,YS w.heap.size w w₁/\CP Lp B true (AV (Zq Lp 91 #[.nilIface,cL] .normal) (f::cs)) w (AV (f.finish (.bool false)) cs) w₁:=by
 have K:Dq Lp B true (EN Lp B fn Post PX):=Jk hl hb PX.blind;have G:=Lc (P':=Lp) (fn:=fn) (Post:=Post) (PostX:=PX) hl;have hc:=j7 cL (tp w fun _ _=>1) (by show((((zS 1 0 3).cut 1:Nat):Int)==1)=false;decide);have Pl:Calls Lp 91 #[.nilIface,cL] (tp w fun _ _=>1) (jL (fun v w₁=>v=.bool false/\YS w.heap.size (tp w fun _ _=>1) w₁) fun _ _=>False):=hc.mono fun e w' ⟨h1,h2⟩=>by rw[h1];exact⟨rfl,h2⟩
 obtain⟨v,w₁,⟨rfl,h1⟩,hp⟩:=EE G Lp.func91 rfl Kv (hM.Dz K.blind _) Pl;exact⟨tp w₁ w.tape,⟨h1.os,rfl,h1.output,h1.size,h1.block⟩,(hp w.tape).Dz⟩
variable {n:Int}
variable {t k b c i:Nat}
def gQ (hl:B.lcs=[De Lp])(hb:Dk Post)(Kv:B.lcs.length<(f::cs).length){m:Int}(ht:w.heap[t]?=some (.cells #[.int .i64 m] 121 (0,0)))
 (hM:CE Lp B true (EN Lp B fn Post PX) (AV (Zq Lp 91 #[.iface 121 (.agg #[.int .i64 n]),.iface 123 (.pointer (some ⟨t,0,none⟩))] .normal) (f::cs)) w):
  ∃w₁,YS w.heap.size (w.setCell ⟨t,0,none⟩ (.int .i64 n)) w₁/\CP Lp B true (AV (Zq Lp 91 #[.iface 121 (.agg #[.int .i64 n]),.iface 123 (.pointer (some ⟨t,0,none⟩))] .normal) (f::cs)) w (AV (f.finish (.bool true)) cs) w₁:=by
 have K:Dq Lp B true (EN Lp B fn Post PX):=Jk hl hb PX.blind;have G:=Lc (P':=Lp) (fn:=fn) (Post:=Post) (PostX:=PX) hl;have hc:=j8 n m t (tp w fun _ _=>1) (by show((((zS 1 0 3).cut 1:Nat):Int)==1)=false;decide) ht;have Pl:Calls Lp 91 #[.iface 121 (.agg #[.int .i64 n]),.iface 123 (.pointer (some ⟨t,0,none⟩))] (tp w fun _ _=>1) (jL (fun v w₁=>v=.bool true/\YS w.heap.size ((tp w fun _ _=>1).setCell ⟨t,0,none⟩ (.int .i64 n)) w₁) fun _ _=>False):=hc.mono fun e w' ⟨h1,h2⟩=>by rw[h1];exact⟨rfl,h2⟩
 obtain⟨v,w₁,⟨rfl,h1⟩,hp⟩:=EE G Lp.func91 rfl Kv (hM.Dz K.blind _) Pl;exact⟨tp w₁ w.tape,⟨h1.os,rfl,h1.output,h1.size,h1.block⟩,(hp w.tape).Dz⟩
end
def TB:Oh.low=1:=by kernel_rfl
section
variable {B:Ik}{fn:Func}{Post:Ze->Zc->Prop}{J:Nat->Obj->Prop}{ρ₀ ρ:Ren}{n₀ n₀':Nat}{Lk S:Nat->Prop}{f f':ZT}{cs cs':List ZT}{a a':Array Ze}{w w':Zc}{gs:Array Zi}{sl:Option (Nat×Nat)}{t:Y8}{q:Nat->Nat}{Shun:Loc->Prop}
variable {σ τ:Ren}
variable {v2 v3 v7 v8 v9 v10 v11 RE RF RG RH RI RJ RK RL v20 RM RN RO RP RQ RR RS RU RV v30 RX RY RZ R0 R3 R4 Xi Xj Xk Xl R5 v x:Ze}
def VR.TC {ty:Zr}(h:VR σ (.iface ty v) x):∃y,x=.iface ty y/\VR σ v y:=by
 cases h with
 |iface _ h=>exact⟨_,rfl,h⟩
variable {n:Int}
def VR.rR {k:IntKind}(h:VR σ (.int k n) x):x=.int k n:=by
 cases h with
 |int=>rfl
def VR.kD (h:VR σ (.agg #[v]) x):∃y,x=.agg #[y]/\VR σ v y:=by
 cases h with
 | @agg _ c h1 h2=>
  match c,h1 with
  |⟨[y]⟩,_=>exact⟨y,rfl,h2 0 _ _ rfl rfl⟩
variable {p:Addr}
def VR.rS (h:VR σ (.pointer (some p)) x):∃p',x=.pointer (some p')/\AR σ p p':=by
 cases h with
 | @pointer _ q h=>
  cases q with
  |none=>exact h.elim
  |some q=>exact⟨q,rfl,h⟩
def adf (hl:B.lcs=[De Lp])(KF:B.K.seg=false)(rG:Dk Post)(ha:a.size=2)(hva:B1 ρ a a')(JN:ρ.ok=Oh)(hz:ρ 0=some 0)(hJ:∀b o,J b o->Quiet o)(hS:Gr Lp Zd B ρ (f::cs) (f'::cs'))(Bn:f.todo≠ [])
 (hM:CE Lp B true (EN Lp B fn Post PX) (AV (Zq Lp 91 a .normal) (f::cs)) w)
 (H:NY Lp Zd B J ρ₀ n₀ n₀' Lk S ρ (AV (Zq Lp 91 a .normal) (f::cs)) w (AV (Zq Zd 91 a' .normal) (f'::cs')) w') (X:Ctx Zd S (AV (Zq Zd 91 a' .normal) (f'::cs')) w' gs t q Shun):
  Tv Lp Zd B J ρ₀ n₀ n₀' Lk S (AV (Zq Lp 91 a .normal) (f::cs)) w w' gs sl t:=by
 obtain⟨err,cL,rfl,ap9,tt,m,rfl,O2,htb,h0,hg⟩:=aiM hl KF rG H.env hS ⟨w',H.world⟩ ha hM;obtain⟨y0,y1,rfl⟩:=aiL a' (hva.1.symm.trans rfl);have v0:VR ρ err y0:=hva.2 0 _ _ rfl rfl;have v1:VR ρ (.iface 123 (.pointer (some ⟨tt,0,none⟩))) y1:=hva.2 1 _ _ rfl rfl;have Kv:B.lcs.length<(f::cs).length:=hS.deep;obtain⟨y,rfl,v2⟩:=VR.TC v1;obtain⟨⟨t',o',s'⟩,rfl,ht1,ht2,ht3⟩:=VR.rS v2;dsimp only at ht1 ht2 ht3;subst ht2 ht3;rcases ap9 with rfl|⟨n,rfl⟩
 .have e:y0=.nilIface:=by cases v0;rfl
  subst e;obtain⟨N,C6,w₁,C8,El,GY,hr,hX,d,rfl⟩:=gM (sl:=sl) (W:=w') (B:=w'.heap.size) ⟨X.main,X.old,X.past⟩;obtain⟨wL,hB,hP⟩:=gP hl rG Kv hM;exact Ng (Shun₁:=Shun) H hS Bn hr hP hB.block hB.os hB.size hX (fun b _=>rfl) (Zj _) ⟨rfl,rfl,rfl⟩ X.bE (Ren.le_refl ρ) (fun b c h=>.inl h) (fun b hb=>(X.held b hb).2) (.bool false)
 .obtain⟨z,rfl,v3⟩:=VR.TC v0
  obtain⟨z,rfl,v4⟩:=VR.kD v3;obtain rfl:=VR.rR v4;have Jt:ρ 1=some 1:=by have:=ρ.base;rw[JN,TB]at this;exact this
  have AA:∀b c,ρ b=some c->b<w.heap.size/\c<w'.heap.size:=fun b c h=>H.world.lt h;obtain⟨o,o',p1,p2,p3⟩:=H.world.obj tt t' ht1;rw[htb]at p1;cases p1;have adh:∃fz,o'=.cells #[.int .i64 m] 121 fz/\fz.2<=fz.1:=by
   cases p3 with
   | @cells _ c' e f1 f2 hc hf=>
    refine⟨f2,?_,?_⟩
    .match c',hc with
     |⟨[y]⟩,hc=>
      have:VR ρ (.int .i64 m) y:=hc.2 0 _ _ rfl rfl;rw[VR.rR this]
    .rcases hf with rfl|hf|⟨h1,h2⟩
     .exact Zj _
     .exact hf
     .dsimp only at h2;omega
  obtain⟨fz,rfl,hfz⟩:=adh;have hcell:w'.cell? ⟨t',0,none⟩=some (.int .i64 m):=by unfold zG;rw[p2];rfl
  have apa:w'.frozen? ⟨t',0,none⟩=false:=by unfold Yy;rw[p2];simp;omega
  have G2:w'.cell? ⟨0,0,none⟩=some (.iface 220 (.agg #[hand 117])):=by
   obtain⟨x,x1,x2⟩:=WR.kq H.world hz hg;obtain⟨y,rfl,x3⟩:=VR.TC x2;obtain⟨y,rfl,x4⟩:=VR.kD x3;obtain⟨⟨b1,b2,b3⟩,rfl,x5,x6,x7⟩:=VR.rS x4;dsimp only at x5 x6 x7;rw[Jt]at x5;cases x5;subst x6 x7;exact x1
  have aiN:S t':=(H.holds t').2 ⟨tt,ht1⟩;have h0S:S 0:=(H.holds 0).2 ⟨0,hz⟩;have apb:=(AA _ _ ht1).2;have Tt:∀p:Addr,w'.heap.size<=p.block->¬Shun (.cell p):=fun p hp hs=>by
   obtain⟨a,e,h⟩:=X.bE _ hs;cases e;omega
  obtain⟨N,C6,w₁,C8,El,GY,hr,hX,W4,d,hV,rfl⟩:=gO (sl:=sl) (W:=w') (B:=w'.heap.size+4) (old:=.int .i64 m) ⟨X.main,X.old,X.past.mono (by omega)⟩ (fun p hp=>by
   rcases hp with hp|hp|hp
   .exact(X.held 0 h0S).2 p hp
   .exact(X.held t' aiN).2 p hp
   .exact Tt p hp) (Zj _) G2 hcell apa
  obtain⟨wL,hB,hP⟩:=gQ hl rG Kv htb hM;have Ek:((W4.setCell ⟨t',0,none⟩ (.int .i64 n)).at d).heap.size=w'.heap.size+4:=by
   show(W4.setCell _ _).heap.size=_;rw[<-hV.size];simp[zb]
  have hsL:wL.heap.size>=w.heap.size:=by
   have:=hB.size;simpa[zb]using this
  have Qg:∀c,c<w'.heap.size->c≠t'->((W4.setCell ⟨t',0,none⟩ (.int .i64 n)).at d).heap[c]?=w'.heap[c]? :=fun c h1 h2=>by
   show(W4.setCell _ _).heap[c]?=_;rw[Zab _ _ _ _ h2,hV.old c h1]
  have Kt:∀b,b<w.heap.size->b≠tt->wL.heap[b]?=w.heap[b]? :=fun b h1 h2=>by
   rw[hB.block b h1,Zab _ _ _ _ h2]
  have pL:((W4.setCell ⟨t',0,none⟩ (.int .i64 n)).at d).heap[t']?=some (.cells #[.int .i64 n] 121 fz):=by
   show(W4.setCell _ _).heap[t']?=_;unfold zb;simp only[Zac,if_pos];rw[hV.old t' apb,p2]
   rfl
  have apc:wL.heap[tt]?=some (.cells #[.int .i64 n] 121 (0,0)):=by
   rw[hB.block tt O2];unfold zb;simp only[Zac,if_pos];rw[htb]
   rfl
  have O4:∀b,K8 J w b->b≠tt:=by
   rintro b (⟨ty,k,h1,h2⟩|⟨o,h1,h2⟩) rfl
   .unfold Yx at h1
    rw[htb]at h1;cases h1;have:=h2 0 (by simp);unfold Yy at this;rw[htb]at this;simp at this
   .rw[htb]at h2
    cases h2;cases hJ _ _ h1
  refine⟨N,C6,C8,El,GY,Shun,S,ρ,AV (f.finish (.bool true)) cs,wL,AV (f'.finish (.bool true)) cs',_,hr,hP,?_,?_,?_⟩
  .refine⟨H.env,H.le,H.fresh,⟨Zt H.size.1 hsL,by rw[Ek];exact Zt H.size.2 (by omega)⟩,.inl ⟨_,_,_,_,rfl,rfl,hS.top fun K h=>h.finish (.bool true) Bn⟩,⟨fun b c KC=>?_,?_⟩,fun c hc=>?_,H.holds⟩
   .by_cases hbt:b=tt
    .subst hbt
     rw[ht1]at KC;cases KC;exact⟨_,_,apc,pL,.cells 121 (BG.single (.int _ _)) (.inr (.inl hfz))⟩
    .have hct:c≠t':=fun e=>hbt (ρ.inj _ _ _ KC (e▸ht1))
     obtain⟨o,o',h1,h2,h3⟩:=H.world.obj b c KC;exact⟨o,o',(Kt b (AA b c KC).1 hbt).trans h1,(Qg c (AA b c KC).2 hct).trans h2,h3⟩
   .rw[hB.os]
    exact hV.os.trans H.world.os
   .obtain⟨b,h1,h2⟩:=H.lock c hc
    exact⟨b,h1,K8.same h2 (Kt b (AA b c h1).1 (O4 b h2))⟩
  .exact⟨hX.main,hX.old,by rw[Ek];exact hX.past,fun c hc=>⟨by rw[Ek];have:=(X.held c hc).1;omega,(X.held c hc).2⟩,fun l hl=>by obtain⟨a,e,h⟩:=X.bE l hl;exact⟨a,e,by rw[Ek];omega⟩⟩
  .refine⟨by rw[Ek];omega,fun b hb hx=>Qg b hb fun e=>?_,hV.os,hV.tape,hV.output,fun c hc=>.inl hc⟩
   subst e;rcases hx with hx|hx
   .exact hx aiN
   .obtain⟨b,h1,h2⟩:=H.lock _ hx
    exact O4 b h2 (ρ.inj _ _ _ h1 ht1)
end
def U1 (i:Nat):Bool:=Xn i||i==155||i==156
def adi (i:Nat):Bool:=cx i||i==156
def okL:Qd:= {val:=adi,NI:=U1,dir:=fun f _=>U1 f,low:=Tryz.prog.globals.size}
def TD (f:Option Func):Bool:=match f with
 |none=>false
 |some fn=> !(fn.name== "runtime.NumGoroutine")&&match fn.body with
  |none=>false
  |some c=>(!fn.norace)&&Bi Lp okL B3 false c
def aiO:(ZL 194).all (fun f=> !U1 f||TD Lp.funcs[f]?)=true:=by kernel_rfl
variable {B f t k b c i:Nat}
def wW (h:U1 f=true):f<194:=by
 unfold U1 at h;simp only[Za1,beq_iff_eq]at h;rcases h with(h|h)|h
 .exact fZ h
 .omega
 .omega
def rT (h:adi f=true):U1 f=true:=by
 unfold adi at h;simp only[Za1,beq_iff_eq]at h;unfold U1;rcases h with h|h
 .rw[(Oi h).1];rfl
 .subst h;rfl
def adj (h:U1 f=true):∃fn code,Lp.funcs[f]?=some fn/\fn.body=some code/\Bi Lp okL B3 false code=true/\(fn.name== "runtime.NumGoroutine")=false/\fn.norace=false:=by
 have:=zt.1 aiO f (List.mem_range.2 (wW h));rw[h]at this;have hc:TD Lp.funcs[f]?=true:=by simpa using this
 unfold TD at hc;cases e:Lp.funcs[f]? with
 |none=>rw[e]at hc;cases hc
 |some fn=>
  rw[e]at hc;cases eb:fn.body with
  |none=>simp[eb]at hc
  |some c=>
   simp only[eb,ZI,ZcI]at hc;exact⟨fn,c,rfl,eb,hc.2.2,hc.1,hc.2.1⟩
def wX:Pd Lp Lp okL (fun _=>false) where
 val f h:=⟨rT h,rfl⟩
 dir f n h:=.inl ⟨h,rfl⟩
 met f n _ hs:=by cases hs
 has f h _:=by
  obtain⟨fn,code,h1,h2,h3,h4,h5⟩:=adj h;exact⟨fn,code,h1,h1,h2,h3,h4,h5⟩
def gR:Twins Lp Lp:=bM rfl aal aam
variable {σ ρ τ:Ren}
def ape (h1:ρ.ok=okL)(h2:ρ.good=Bi Lp okL B3 false)(h3:ρ.sp=fun _=>false):Env Lp Lp ρ:=
 ⟨by unfold Base;rw[h1];rfl,by rw[h1];exact h2,by rw[h1,h3];exact wX⟩
end Go.Proofs.Fit
namespace Go.FO
open Go Go.Conc
variable {σ ρ τ:Ren}
def VU {b:Array Ze}(h:∀x∈b,∃v,VR τ v x):∃a,B1 τ a b:=La fun i x hx=>h x (zC hx)
def VR.total (τ:Ren)(x:Ze):∃v,VR τ v x:=by
 have key:∀(n:Nat) (x:Ze),SizeOf.sizeOf x<n->∃v,VR τ v x:=by
  intro n
  induction n with
  |zero=>intro x hx;omega
  |succ n ih=>
   intro x hx;cases x with
   |bool b=>exact⟨_,.bool b⟩
   |int k n=>exact⟨_,.int k n⟩
   |float k b=>exact⟨_,.EK rfl⟩
   |complex k a b=>exact⟨_,.EK rfl⟩
   |string s=>exact⟨_,.string s⟩
   |pointer a=>cases a with
    |none=>exact⟨_,.pointer (a:=none) trivial⟩
    |some a=>exact⟨_,.EK rfl⟩
   |slice a n c=>cases a with
    |none=>exact⟨_,.slice (a:=none) n c trivial⟩
    |some a=>exact⟨_,.EK rfl⟩
   |map r=>cases r with
    |none=>exact⟨_,.map (r:=none) trivial⟩
    |some a=>exact⟨_,.EK rfl⟩
   |chan r=>cases r with
    |none=>exact⟨_,.chan (r:=none) trivial⟩
    |some a=>exact⟨_,.EK rfl⟩
   |func f a c=>cases f with
    |method m=>exact⟨_,.meth m a c⟩
    |_=>exact⟨_,.EK rfl⟩
   |nilFunc=>exact⟨_,.nilFunc⟩
   |iface t v=>exact⟨_,.EK rfl⟩
   |nilIface=>exact⟨_,.nilIface⟩
   |agg c=>
    obtain⟨a,ha⟩:=VU (τ:=τ) (b:=c) fun x jP=>ih x (by have h1:=Zds jP;simp at hx;omega);exact⟨_,VR.QW ha⟩
   |tuple c=>
    obtain⟨a,ha⟩:=VU (τ:=τ) (b:=c) fun x jP=>ih x (by have h1:=Zds jP;simp at hx;omega);exact⟨_,VR.tuple' ha⟩
 exact key _ x (Nat.lt_succ_self _)
def OR.J3 (τ:Ren)(c:Array Ze)(e:Zr)(f:Nat×Nat):OR τ (Dw τ (.cells c e f)) (.cells c e f):=by
 refine .cells e ⟨by simp,fun i v y h1 h2=>?_⟩ (RA _ _);rw[zN,h2]at h1;cases h1;exact Po (VR.total τ y)
end Go.FO
namespace Go.Proofs.Fit
open Go Go.Conc Go.FO Go.RowKit
def kE:Oh.low=1:=TB
def Dc (W:Zc)(b:Nat):Prop:=b=Oh.low\/∃c e f,W.heap[b]?=some (.cells c e f)
def Rd (W:Zc):Ren:=Ren.Xa (Dc W) Oh (Bi Zd Oh B3 false) aF (.inl rfl)
def BK (W:Zc):Zc:=snap (Rd W) W
def gS (W:Zc):(BK W).heap.size=W.heap.size:=LZ _ _
variable {W W2 w:Zc}
variable {B f t k b c i:Nat}
def ID:Rd W b=some c↔Dc W b/\b=c:=Gt
def rU {c:Array Ze}{e:Zr}{f:Nat×Nat}(h:W.heap[b]?=some (.cells c e f)):Rd W b=some b:=ID.2 ⟨.inr ⟨_,_,_,h⟩,rfl⟩
def wY (W:Zc):Rd W Oh.low=some Oh.low:=ID.2 ⟨.inl rfl,rfl⟩
variable {p:Addr}
variable {v2 v3 v7 v8 v9 v10 v11 RE RF RG RH RI RJ RK RL v20 RM RN RO RP RQ RR RS RU RV v30 RX RY RZ R0 R3 R4 Xi Xj Xk Xl R5 v x:Ze}
def TE (h:W.cell? p=some v)(hv:VR (Rd W) v v):(BK W).cell? p=some v:=Jo h hv
variable {o:Obj}
def VV (h:W.heap[Oh.low]?=some o)(hb:∃c e f,o=.cells c e f):WR (Rd W) (BK W) W:=by
 refine qH fun c hc=>?_;rcases hc with rfl|⟨cs,e,f,hc⟩
 .obtain⟨c,e,f,rfl⟩:=hb
  exact⟨_,h,OR.J3 _ _ _ _⟩
 .exact⟨_,hc,OR.J3 _ _ _ _⟩
def wZ (W:Zc):Ren:=(Rd W).with okL (Bi Lp okL B3 false) (fun _=>false) rfl
def aiP (h:Oh f=true):okL f=true:=by
 show(cx f||f==156)=true;have h':cx f=true:=h;rw[h'];rfl
def cZ (W:Zc):(Rd W).sub (wZ W):=S7 fun _ h=>aiP h
variable {σ ρ τ:Ren}
def OR.rV (s:ρ.sub τ){x:Obj}(h:OR ρ o x)(hq:(∃c e f,o=.cells c e f)\/o=.coro none):OR τ o x:=by
 rcases hq with⟨c,e,f,rfl⟩|rfl
 .cases h with
  |cells e h hf=>exact .cells e (B1.sub s h) hf
 .cases h with
  |junk h=>exact .junk h
def gT (h:W.heap[Oh.low]?=some o)(hb:∃c e f,o=.cells c e f):WR (wZ W) (BK W) W:=by
 refine⟨fun b c KC=>?_,rfl⟩;obtain⟨hD,rfl⟩:=ID.1 (show Rd W b=some c from KC);have hW:=VV h hb;obtain⟨x,y,h1,h2,h3⟩:=hW.obj b b (ID.2 ⟨hD,rfl⟩);refine⟨x,y,h1,h2,OR.rV (cZ W) h3 ?_⟩;have lL:(W.heap[b]?).map (Dw (Rd W))=some x:=(N9 _ _ _).symm.trans h1;rcases hD with rfl|⟨cs,e,f,hc⟩
 .obtain⟨c,e,f,rfl⟩:=hb
  rw[h,Zdz]at lL;exact .inl ⟨_,_,_,(ZK lL).symm⟩
 .rw[hc]at lL
  exact .inl ⟨_,_,_,(ZK lL).symm⟩
def gU (h:W.heap[Oh.low]?=some o)(hb:∃c e f,o=.cells c e f)(hc:Dc W c):K8 (fun b q=>Quiet q/\(BK W).heap[b]?=some q) (BK W) c:=by
 have key:∀x,W.heap[c]?=some x->OR (Rd W) (Dw (Rd W) x) x->K8 (fun b q=>Quiet q/\(BK W).heap[b]?=some q) (BK W) c:=fun x h1 h2=>(VC h1 h2).imp id fun⟨q,h3,h4⟩=>⟨q,⟨h3,h4⟩,h4⟩;rcases hc with rfl|⟨cs,e,f,hc⟩
 .obtain⟨c,e,f,rfl⟩:=hb
  exact key _ h (OR.J3 _ _ _ _)
 .exact key _ hc (OR.J3 _ _ _ _)
def CE.imp {P':Zp}{B:Ik}{m:Bool}{Stop aaJ:Zi->Zc->Prop}(h:∀g w,Stop g w->aaJ g w){g:Zi}(hM:CE P' B m Stop g w):CE P' B m aaJ g w:=by
 induction hM with
 |stop x=>exact .stop (h _ _ x)
 |step hn hr AG w₁ es hs _ ih=>exact .step hn hr AG w₁ es hs ih
def KT (f:ZaV):Cut:=⟨false,B3,[],[],f,true,fun _=>Zf,0,.normal⟩
def BT (f:ZaV):Ik:=⟨KT f,[De Lp],[],true⟩
def w_ (f:ZaV):(BT f).Mp:=⟨fun _=>⟨rfl,rfl,rfl⟩,by simp[BT],fun h=>(by cases h),fun _=>⟨rfl,rfl,rfl⟩⟩
variable {P:Zp}
variable {a:Array Ze}
def VW (E:Env Lp P ρ){f:ZaV}(hf:ρ.ok.NI f=true)(KE:ρ.sp f=false){a':Array Ze}(ha:B1 ρ a a'):Hz Lp P (KT f) ρ (Zq Lp f a .normal) (Zq P f a' .normal):=by
 obtain⟨fn,code,h1,h2,h3,h4,h5,h6⟩:=E.NI.has f hf KE;unfold Zq;rw[h1,h2];refine⟨rfl,fun _=>⟨hf,KE⟩,⟨Ei h1 h6,Ei h2 h6⟩,?_,⟨[.code code],?_,?_⟩,⟨[],rfl,.nil⟩,.run,⟨rfl,.inl rfl⟩,trivial,fun h=>(by cases h),fun _=>⟨rfl,rfl⟩,fun h=>(by cases h)⟩
 .rw[ha.1];exact Qn.of (ha.append (BG.replicate _ (VR.undef ρ)))
 .simp[h3,KT]
 .simp only[Option.bind_some,h3,Zx]
  exact .cons (.code h4) .nil
def XI (w:Zc):Ending->Zc->Prop:=fun e w'=>YS w.heap.size w w'/\(e=.returned (.bool true)\/∃x,e=.panicked x/\PX x w')
def QJ (w:Zc)(b:Nat)(o:Obj):Prop:=Quiet o/\w.heap[b]?=some o
def QJ.lt {w:Zc}{b:Nat}{o:Obj}(h:QJ w b o):b<w.heap.size:=(Za.1 h.2).1
def JD (wl:Zc)(v:Ze)(w:Zc):Prop:=v=.bool true/\∀b o,QJ wl b o->w.heap[b]?=some o
def PostX (wl:Zc)(x:List zn)(w:Zc):Prop:=PX x w/\∀b o,QJ wl b o->w.heap[b]?=some o
def JD.blind (wl:Zc):Dk (JD wl):=fun _ _ _ h=>h
def PostX.blind (wl:Zc):Dk (PostX wl):=fun _ _ t h=>⟨PX.blind _ _ t h.1,h.2⟩
def gV {Q:Zp}{fr:ZT}{fn:Func}(ht:fr.defers=[])(hm:fr.mode=.returning)(hk:fr.kind=.normal)(hf:Q.funcs[fr.fn]?=some fn)(hr:fn.results= #[.tmp i])(hi:Q.inits.idxOf? fr.fn=none):
  unwind Q true fr [] none w=.ended (.done (fr.tmps.getD i Zf)) w (seen Q fr.fn #[]):=by
 unfold unwind;simp[-zk,ht,hm,hf,Go.FO.results_tmp (P':=Q) hr,zW,doReturn,hk,hi]
def da (JN:σ.ok=Oh){cap:Array Ze}(h:VR σ (Xq cap) v):False:=by
 unfold Xq at h;cases h with
 |iface _ h=>
  cases h with
  |func h=>
   cases h with
   |func h=>
    rw[JN]at h;have:cx 156=true:=h;cases this
def xa {f:ZaV}{fn:Func}(hf:Oh.NI f=true)(hfL:U1 f=true)(G7:Tryz.prog.funcs[f]?=some fn)(hr:fn.results= #[.tmp i])(rW:Tryz.prog.inits.idxOf? f=none)
 {args:Array Ze} (Jt:∃o,W.heap[Oh.low]?=some o/\∃c e f,o=.cells c e f) (h0:∃c e f,W.heap[0]?=some (.cells c e f)) (kF:B1 (Rd W) args args)
 (hc:∀t,Calls Lp f args (tp (BK W) t) (XI (tp (BK W) t))):
  ∃M last o w' t',ZaI Zd (M+1) (solo (G (Zq Zd f args .normal) []) W) #[]=(.ended o w',t')/\runN Zd M (solo (G (Zq Zd f args .normal) []) W)=.next last/\
   step Zd last=.ended o w'/\Conc.Good Zd (fun v W'=>v=.bool true/\YS W.heap.size W W') last o w' t':=by
 obtain⟨o,Jt,Ms⟩:=Jt;obtain⟨c0,e0,f0,h0⟩:=h0;have T:=AK.twins;have hd:BW<=Tryz.prog.depth:=of_decide_eq_true (by kernel_rfl);have hdL:BW<=Lp.depth:=by rw[q9];exact hd
 have hB:=w_ f;have E:Env Lp Zd (Rd W):=AK.anA rfl rfl rfl;have aph:Lp.funcs[f]?=some fn:=(AK.same f (Jv.1 hf).1 (Jv.1 hf).2).trans G7;have hWR:=VV Jt Ms;have EL:Env Lp Lp (wZ W):=ape rfl rfl rfl;have hSL:FL Lp Lp (BT f) (AV (Zq Lp f args .normal) [De Lp]) (BK W):=
  ⟨wZ W,AV (Zq Lp f args .normal) [],W,EL,⟨_,_,_,_,rfl,rfl,.bot (B:=BT f) (VW EL hfL rfl (B1.sub (cZ W) kF))⟩,gT Jt Ms,rfl⟩
 have Pl:∀t,Calls Lp f args (tp (BK W) t) (jL (JD (BK W)) (PostX (BK W))):=fun t=>(hc t).mono fun e w' ⟨hb,he⟩=>by
  have hq:∀b o,QJ (BK W) b o->w'.heap[b]?=some o:=fun b o h=>(hb.block b h.lt).trans h.2;rcases he with rfl|⟨x,rfl,hx⟩
  .exact⟨rfl,hq⟩
  .exact⟨hx,hq⟩
 have hM:=bz gR hdL hB rfl rfl (B:=BT f) aph hr (JD.blind _) (PostX.blind _) rfl hSL Pl;have K:Dq Lp (BT f) true (EN Lp (BT f) fn (JD (BK W)) (PostX (BK W))):=Jk rfl (JD.blind _) (PostX.blind _);have SG:=Lc (P':=Lp) (B:=BT f) (fn:=fn) (Post:=JD (BK W)) (PostX:=PostX (BK W)) rfl;have himp:∀g w,EN Lp (BT f) fn (JD (BK W)) (PostX (BK W)) g w->EN Lp (BT f) fn (JD (BK W)) PX g w:=fun g w h=>h.imp id fun⟨x,h1,h2⟩=>⟨x,h1,h2.1⟩;have api:∀g w,EN Lp (BT f) fn (JD (BK W)) (PostX (BK W)) g w->∀b o,QJ (BK W) b o->w.heap[b]?=some o:=by
  rintro g w (⟨_,_,i,_,h,_⟩|⟨x,_,h⟩) b o hb
  .exact h.2 b o hb
  .exact h.2 b o hb
 have hS0:∀c,Dc W c↔∃b,Rd W b=some c:=fun c=>⟨fun h=>⟨c,ID.2 ⟨h,rfl⟩⟩,fun⟨b,h⟩=>by obtain⟨h1,rfl⟩:=ID.1 h;exact h1⟩;have hSt:Gr Lp Zd (BT f) (Rd W) (Zq Lp f args .normal:: [De Lp]) (Zq Zd f args .normal:: []):=.bot (B:=BT f) (VW E hf (Jv.1 hf).2 kF);have H:NY Lp Zd (BT f) (QJ (BK W)) (Rd W) (BK W).heap.size W.heap.size (Dc W) (Dc W) (Rd W) (AV (Zq Lp f args .normal) [De Lp]) (BK W) (AV (Zq Zd f args .normal) []) W:=
  ⟨E,Ren.le_refl _,fun _ _ h=>.inl h,⟨Zj _,Zj _⟩,.inl ⟨_,_,_,_,rfl,rfl,hSt⟩,hWR,fun c hc=>⟨c,ID.2 ⟨hc,rfl⟩,gU Jt Ms hc⟩,hS0⟩
 have apj:∀c,Dc W c->c<W.heap.size:=fun c h=>(hWR.lt (ID.2 ⟨h,rfl⟩)).2;have X:Ctx Zd (Dc W) (AV (Zq Zd f args .normal) []) W #[AV (Zq Zd f args .normal) []] #[] (fun _=>0) (fun _=>False):=
  ⟨rfl,leavers_one _ _,past_nil.mono (Zn _),fun b hb=>⟨apj b hb,fun _ _ h=>h⟩,fun l h=>h.elim⟩
 have SP:qz Lp Zd (BT f) (QJ (BK W)) true (EN Lp (BT f) fn (JD (BK W)) (PostX (BK W))) (Rd W) (BK W).heap.size W.heap.size (Dc W):=by
  intro S ρ g w g' w' gs sl t q Shun KE hMu HH XX;obtain⟨k,a,a',fr,cs,BC,cs',h1,h2,h3,rfl,rfl,h4,h5⟩:=KE;have JN:ρ.ok=Oh:=HH.le.2.1;rw[JN]at h1;rw[HH.le.2.2.2]at h2;have aiR:=CE.imp himp hMu;have hk:k=91\/k=104:=by simpa[Rd,Ren.Xa,aF]using h2
  have aiS:(Xn k&&(if k=91 then a.size==2 else if k=104 then a.size==3 else true))=true:=h1;rcases hk with rfl|rfl
  .have ha:a.size=2:=by simpa[Xn]using aiS
   exact adf rfl rfl (JD.blind _) ha h3 JN (HH.le.1 _ _ (rU h0)) (fun b o h=>h.1) h4 h5 aiR HH XX
  .have ha:a.size=3:=by simpa[Xn]using aiS
   exact wS rfl rfl (JD.blind _) ha h3 JN h4 h5 aiR HH XX
 have way:=qA (P':=Lp) (P:=Zd) (B:=BT f) (m:=true) (Lk:=Dc W) T hd hB K SG.K9 (ρ₀:=Rd W) (n₀:=(BK W).heap.size) (n₀':=W.heap.size) (J:=QJ (BK W)) (D₀:=fun g w=>FL Lp Lp (BT f) g w\/HJ (BT f) g\/Q0 (BT f) g)
  (fun g w t AG w₁ es h hn hs=>FL.out gR hdL hB rfl h hn hs) (fun b o h=>⟨h.1,h.lt⟩)
  (fun g w hD hz hMu b o h=>MY gR hdL hB K (fun b o h=>h.1) api hMu hD b o h (Zm h.lt hz))
  (fun σ g w hle hl B5=>by
   obtain⟨c,r,x,x',h1,h2,hx⟩:=hl;have lL: [De Lp]=c::r:=h1;obtain⟨e1,e2⟩:=zV lL;subst e1 e2;rcases B5 with⟨ha,gp,_⟩|⟨y,h4,PG,_⟩
   .rw[h2]at gp
    exact absurd (congrArg ZbH gp) (by simp[AV,BT])
   .rw[h2]at h4
    have e:x=y:=MF (congrArg (fun g:Zi=>g.frame) h4);subst e;rcases PG with⟨_,_,_,_,_,_,_,_,_,rfl,_⟩|⟨_,_,_,_,rfl,_⟩
    all_goals
     cases hx with
     |cons hh _=>exact da hle.2.1 hh.v)
  SP hM (.inl hSL)
 obtain⟨N,C6,C8,El,GY,Shun₁,F1,Dj,w₁',BD,⟨aaK,AG,w₁,By,HH⟩,XX,hD⟩:=way (Dc W) (Rd W) _ W _ none #[] (fun _=>0) (fun _=>False) H X;have Dl:YS W.heap.size W w₁':=⟨hD.os,hD.tape,hD.output,hD.size,fun b hb=>hD.still b hb (by
  by_cases h:Dc W b
  .exact .inr h
  .exact .inl h)⟩
 rcases By with⟨ha,gp,j,hj,VI,_,_⟩|⟨x,rfl,_⟩
 case inr=>
  exfalso;rcases HH.goes with⟨fr,cs,BC,cs',h1,_,hS⟩|⟨_,_,_,c',r',_,_,_,h2,_⟩|⟨_,_,_,_,_,_,_,_,_,_,h1,_,hS,_⟩
  .have:=hS.deep
   have e:cs=[]:=(congrArg ZaU h1).symm;subst e;simp[BT]at this
  .cases h2
  .have:=congrArg (fun g:Zi=>g.callers.length) h1
   simp[AV]at this
 rw[hr]at hj;obtain rfl:i=j:=by simpa using hj
 rcases HH.goes with⟨fr,cs,BC,cs',rfl,rfl,hS⟩|⟨_,_,_,c',r',_,_,_,h2,_⟩|⟨_,_,_,_,_,_,_,_,_,_,rfl,_,hS,_⟩
 case inr.inl=>cases h2
 case inr.inr=>
  have:=hS.deep;have apl:_::_=(BT f).lcs:=gp;rw[<-apl]at this;simp at this
 obtain⟨EJ,rfl,hF⟩:=hS.WT (by rw[show cs=(BT f).lcs from gp]);obtain⟨_,_,AP,wc⟩:True/\True/\fr.mode=.returning/\fr.defers=[]:=by
  rcases ha with⟨h,_⟩|⟨_,_,h1,h2⟩
  .cases h
  .exact⟨trivial,trivial,h1,h2⟩
 have G1:BC.mode=.returning:=by
  have:=hF.mode;rw[AP]at this;generalize BC.mode=x at this;cases this
  rfl
 have aiT:BC.defers=[]:=by
  obtain⟨d,h1,h2⟩:=hF.defers;rw[wc]at h2;rw[h1,EB.SR h2]
  rfl
 have xc:BC.fn=f:=hF.fn.trans (hF.flat rfl).2;have aiU:BC.kind=.normal:=hF.p9 rfl;have hval:BC.tmps.getD i Zf=.bool true:=by
  have hv:VR aaK (fr.tmps.getD i Zf) (BC.tmps.getD i Zf):=by
   have ht:=hF.tmps;by_cases hi:i<fr.tmps.size
   .have Da:i<BC.tmps.size:=ht.size▸hi
    have:=ht.at_ i _ _ rfl (ZC hi) (ZC Da);simpa[Yz,hi,Da]using this
   .have Da:¬i<BC.tmps.size:=ht.size▸hi
    simpa[Yz,hi,Da]using VR.undef aaK
  have hp:fr.tmps.getD i Zf=.bool true:=VI.1;rw[hp]at hv;generalize BC.tmps.getD i Zf=y at hv;cases hv
  rfl
 have MV:∀u,zd Zd true (AV BC []) u=.ended (.done (.bool true)) u (seen Zd BC.fn #[]):=fun u=>by
  rw[BM.2 (by rw[G1];intro h;cases h),gV aiT G1 aiU (by rw[xc];exact G7) hr (by rw[xc];exact rW),hval]
 have aiV:seen Zd BC.fn #[]= #[]:=rfl;obtain⟨M0,last,o,w',t',k1,k2,k3,k4⟩:=beside_ends (P:=Zd) (Shun:=Shun₁) (B:=w₁'.heap.size) (D:=fun _ _ _=>False) (Post:=fun v W'=>v=.bool true/\YS W.heap.size W W') (sl:=C8) (n:=0) (fun _ _ _ h=>h.elim) XX.main XX.old XX.past (by
  rintro u ⟨d,rfl⟩;exact⟨rfl,_,_,MV _,fun e he=>by rw[aiV]at he;simp at he,rfl,⟨Dl.os,Dl.tape,Dl.output,Dl.size,Dl.block⟩⟩)
 refine⟨N+M0,last,o,w',t',?_,?_,k3,k4⟩
 .rw[show N+M0+1=N+(M0+1) by omega]
  show ZaI Zd (N+(M0+1)) (Ys #[AV (Zq Zd f args .normal) []] W none) #[]=_;rw[Go.FO.runNT_add _ _ _ _ _ _ BD];exact k1
 .have hrn:runN Zd N (Ys #[AV (Zq Zd f args .normal) []] W none)=.next (Ys C6 w₁' C8):=by rw[<-runNT_fst _ _ _ #[],BD]
  show runN Zd (N+M0) (Ys #[AV (Zq Zd f args .normal) []] W none)=_;rw[runN_add,hrn];exact k2
end Go.Proofs.Fit
