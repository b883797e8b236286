/- Part of a proof. -/
import Derived.Test.YtkkjobdfheidkaaGreatDoorQ09
import Derived.Stop.Asserts
set_option maxRecDepth 100000
set_option maxHeartbeats 6400000
set_option linter.unusedVariables false
set_option linter.unusedSimpArgs false
open Array renaming getElem?_modify→Zag
open Go renaming World→Zb,Value→Zc,TypeId→Zs,Event→ZU,Frame→ZA,undef→Ze,callFunc→Zz,method→ZaU,Program→Zp,storedEv→Yf,Goroutine→Zg,Trace→YL
open Go.Conc renaming stepG_seq→Zn,stepG_region_end→Zf,stepG_ret'→zO,stepG_skip→ZL,goes_oper_k→zm,mem_listed→zy,evL_cell→Yy,crowd→Yg
open Go.Conc.Goes renaming stop→ZQ
open Go.Frame renaming enter→Zq
open Go.MemAct renaming ofEvent→ZK,touch?→zV
open Go.Proofs.Tryz renaming prog→Zd,underlying123→ZaO,f91→YI
open Go.Question renaming appendCap→zu
open Go.Result renaming andThen→zB,evThen→Zao
open Go.RowKit renaming Below→Zm
open Go.RowKit.Below renaming heap_alloc→zx,heap_setCell→Y9
open Go.Sem renaming run_bind→za
open Go.Value renaming int→ZT
open Go.World renaming cell?→zJ,cell?_of_block→zo,setCell→Z1,block_lt_of_cell?→ZH,alloc→ZaW,frozen?→Yu,shape?→Ys
open List.cons renaming inj→zC
open Nat renaming le_refl→Zj,le_trans→Zx
open Option renaming getD_some→Zw
namespace Go.Proofs.Fit
open Go Go.RowKit Go.Extern.Stop Go.Stop Go.Extern
theorem cL (t:Addr)(w:Zb):(ReflectliteValue.unpack (.iface 123 (.pointer (some t)))).run Zd w
  =.ok (.agg #[.pointer (some ⟨1,123,none⟩),.pointer (some ⟨w.heap.size,0,none⟩),.int .u64 150]) (w.alloc (.cells #[.pointer (some t)] 123)):=by kernel_rfl
theorem iW (a:Addr)(w:Zb):(ReflectliteValue.methodAny (ReflectliteValue.valueError "reflectlite.Value.Type" 0) (fun t _ _ _=>ReflectliteType.toType t) #[.agg #[.pointer (some ⟨1,123,none⟩),.pointer (some a),.int .u64 150]]).run Zd w
  =.ok (.iface 220 (.agg #[.pointer (some ⟨1,123,none⟩)])) w:=by kernel_rfl
theorem iX (w:Zb):((ReflectliteType.abiMethod fun t=>(fun a:Nat=>ZT IntKind.u8 (a:Int))<$>Rtype.kind t) #[.pointer (some ⟨1,123,none⟩)]).run Zd w=.ok (.int .u8 22) w:=by kernel_rfl
theorem iY (w:Zb):((ReflectliteType.abiMethod fun t=>(fun a:Nat=>ZT IntKind.u8 (a:Int))<$>Rtype.kind t) #[.pointer (some ⟨1,121,none⟩)]).run Zd w=.ok (.int .u8 25) w:=by kernel_rfl
theorem fJ (z:Sem Zc)(f:Zs→Addr→Nat→Nat→Sem Zc)(v:Zc):
  ReflectliteValue.method z f #[v]=(do match ←ReflectliteValue.parts v with|none=>z|some (t,a,fl)=>f t a fl (fl % 32)):=rfl
theorem Ji (a:Addr)(w:Zb):(ReflectliteValue.parts (.agg #[.pointer (some ⟨1,123,none⟩),.pointer (some a),.int .u64 150])).run Zd w=.ok (some (123,a,150)) w:=by kernel_rfl
theorem cM (a p:Addr)(W:Zb)(ha:W.cell? a=some (.pointer (some p))):
  (ReflectliteValue.method (ReflectliteValue.valueError "reflectlite.Value.IsNil" 0) ReflectliteValue.isNil #[.agg #[.pointer (some ⟨1,123,none⟩),.pointer (some a),.int .u64 150]]).run Zd W=.ok (.bool false) W:=by
 rw[fJ];simp only[za,Ji,zB];simp[ReflectliteValue.isNil,loadVar,isAgg,underlying,ZaO,ha,zB]
theorem iZ (w:Zb):(ReflectliteType.method ReflectliteType.elem #[.agg #[.pointer (some ⟨1,123,none⟩)]]).run Zd w=.ok (.iface 220 (.agg #[.pointer (some ⟨1,121,none⟩)])) w:=by kernel_rfl
theorem i_ (w:Zb):(ReflectliteType.relation "Implements" ReflectliteType.implements_ #[.agg #[.pointer (some ⟨1,121,none⟩)],.iface 220 (.agg #[.pointer (some ⟨1,117,none⟩)])]).run Zd w=.ok (.bool true) w:=by kernel_rfl
theorem XQ (v:Zc)(w:Zb):(ReflectliteType.typeOf #[.iface 121 v]).run Zd w=.ok (.iface 220 (.agg #[.pointer (some ⟨1,121,none⟩)])) w:=by kernel_rfl
theorem XR (w:Zb):(ReflectliteType.relation "AssignableTo" ReflectliteType.assignableTo #[.agg #[.pointer (some ⟨1,121,none⟩)],.iface 220 (.agg #[.pointer (some ⟨1,121,none⟩)])]).run Zd w=.ok (.bool true) w:=by kernel_rfl
theorem cO (n:Int)(w:Zb):(ReflectliteValue.unpack (.iface 121 (.agg #[.int .i64 n]))).run Zd w
  =.ok (.agg #[.pointer (some ⟨1,121,none⟩),.pointer (some ⟨w.heap.size,0,none⟩),.int .u64 153]) (w.alloc (.cells #[.int .i64 n] 121)):=by kernel_rfl
theorem Py (w:Zb):(Rtype.elem? 123).run Zd w=.ok (some 121) w:=by kernel_rfl
theorem rL (p:Addr)(w:Zb):(ReflectliteValue.mk 121 p ReflectliteValue.flagAddr).run Zd w=.ok (.agg #[.pointer (some ⟨1,121,none⟩),.pointer (some p),.int .u64 409]) w:=by kernel_rfl
theorem cP (a p:Addr)(W:Zb)(ha:W.cell? a=some (.pointer (some p))):
  (ReflectliteValue.method (ReflectliteValue.valueError "reflectlite.Value.Elem" 0) ReflectliteValue.elem #[.agg #[.pointer (some ⟨1,123,none⟩),.pointer (some a),.int .u64 150]]).run Zd W
   =.ok (.agg #[.pointer (some ⟨1,121,none⟩),.pointer (some p),.int .u64 409]) W:=by
 rw[fJ];simp only[za,Ji,zB];simp[ReflectliteValue.elem,loadVar,isAgg,underlying,ZaO,ha,zB,Py,rL]
theorem vd (v x:Zc):ReflectliteValue.set #[v,x]=(do
  let(some (dst,a,fl),some (src,b,_)):=(←ReflectliteValue.parts v, ←ReflectliteValue.parts x)
   |unsupported (.noEntry "extern/(internal/reflectlite.Value).Set.zeroValue")
  if fl / ReflectliteValue.flagAddr % 2==0 then unsupported (.noEntry "extern/(internal/reflectlite.Value).Set.unaddressable")
  let val ←loadVar src b
  if ←Rtype.directlyAssignable dst src then storeVar dst a val
  else if ←Rtype.implements dst src then
   if(←Rtype.kind src)==20 then
    match val with
    | .nilIface=>unsupported (.noEntry "extern/reflectlite: a nil value of one interface type handed on as a value of another")
    |_=>storeVar dst a val
   else storeVar dst a (.iface src val)
  else panicString ("reflectlite.Set: value of type " ++(←Rtype.spelt src)++ " is not assignable to type " ++(←Rtype.spelt dst))
  pure (.tuple #[])):=rfl
theorem Pz (a:Addr)(w:Zb):(ReflectliteValue.parts (.agg #[.pointer (some ⟨1,121,none⟩),.pointer (some a),.int .u64 409])).run Zd w=.ok (some (121,a,409)) w:=by kernel_rfl
theorem RR (a:Addr)(w:Zb):(ReflectliteValue.parts (.agg #[.pointer (some ⟨1,121,none⟩),.pointer (some a),.int .u64 153])).run Zd w=.ok (some (121,a,153)) w:=by kernel_rfl
theorem PD (w:Zb):(Rtype.directlyAssignable 121 121).run Zd w=.ok true w:=by kernel_rfl
theorem nh (ta b:Addr)(n:Int)(old:Zc)(W:Zb)(hb:W.cell? b=some (.int .i64 n))(ht:W.cell? ta=some old)(hf:W.frozen? ta=false):
  (ReflectliteValue.set #[.agg #[.pointer (some ⟨1,121,none⟩),.pointer (some ta),.int .u64 409],.agg #[.pointer (some ⟨1,121,none⟩),.pointer (some b),.int .u64 153]]).run Zd W
   =.ok (.tuple #[]) (W.setCell ta (.int .i64 n)):=by
 rw[vd];simp only[za,Pz,RR,zB];simp[ReflectliteValue.flagAddr,loadVar,isAgg,underlying,Tryz.underlying121,zB,loadCells,loadCellsFrom,Addr.add,hb,PD,storeVar,Value.cells,storeCells];rw[run_store Zd W ta _ _ (by rfl)];simp[ht,hf]
theorem cQ (t:Addr)(w:Zb)(es:Array ZU):(ReflectliteValue.unpack (.iface 123 (.pointer (some t)))).events Zd w es=es:=by kernel_rfl
theorem ja (a:Addr)(w:Zb)(es:Array ZU):(ReflectliteValue.methodAny (ReflectliteValue.valueError "reflectlite.Value.Type" 0) (fun t _ _ _=>ReflectliteType.toType t) #[.agg #[.pointer (some ⟨1,123,none⟩),.pointer (some a),.int .u64 150]]).events Zd w es=es:=by kernel_rfl
theorem jb (w:Zb)(es:Array ZU):((ReflectliteType.abiMethod fun t=>(fun a:Nat=>ZT IntKind.u8 (a:Int))<$>Rtype.kind t) #[.pointer (some ⟨1,123,none⟩)]).events Zd w es=es:=by kernel_rfl
theorem jc (w:Zb)(es:Array ZU):((ReflectliteType.abiMethod fun t=>(fun a:Nat=>ZT IntKind.u8 (a:Int))<$>Rtype.kind t) #[.pointer (some ⟨1,121,none⟩)]).events Zd w es=es:=by kernel_rfl
theorem RS (a:Addr)(w:Zb)(es:Array ZU):(ReflectliteValue.parts (.agg #[.pointer (some ⟨1,123,none⟩),.pointer (some a),.int .u64 150])).events Zd w es=es:=by kernel_rfl
theorem jd (w:Zb)(es:Array ZU):(ReflectliteType.method ReflectliteType.elem #[.agg #[.pointer (some ⟨1,123,none⟩)]]).events Zd w es=es:=by kernel_rfl
theorem je (w:Zb)(es:Array ZU):(ReflectliteType.relation "Implements" ReflectliteType.implements_ #[.agg #[.pointer (some ⟨1,121,none⟩)],.iface 220 (.agg #[.pointer (some ⟨1,117,none⟩)])]).events Zd w es=es:=by kernel_rfl
theorem XS (v:Zc)(w:Zb)(es:Array ZU):(ReflectliteType.typeOf #[.iface 121 v]).events Zd w es=es:=by kernel_rfl
theorem XT (w:Zb)(es:Array ZU):(ReflectliteType.relation "AssignableTo" ReflectliteType.assignableTo #[.agg #[.pointer (some ⟨1,121,none⟩)],.iface 220 (.agg #[.pointer (some ⟨1,121,none⟩)])]).events Zd w es=es:=by kernel_rfl
theorem cR (n:Int)(w:Zb)(es:Array ZU):(ReflectliteValue.unpack (.iface 121 (.agg #[.int .i64 n]))).events Zd w es=es:=by kernel_rfl
theorem XU (w:Zb)(es:Array ZU):(Rtype.elem? 123).events Zd w es=es:=by kernel_rfl
theorem rM (p:Addr)(w:Zb)(es:Array ZU):(ReflectliteValue.mk 121 p ReflectliteValue.flagAddr).events Zd w es=es:=by kernel_rfl
theorem XV (a:Addr)(w:Zb)(es:Array ZU):(ReflectliteValue.parts (.agg #[.pointer (some ⟨1,121,none⟩),.pointer (some a),.int .u64 409])).events Zd w es=es:=by kernel_rfl
theorem cS (a:Addr)(w:Zb)(es:Array ZU):(ReflectliteValue.parts (.agg #[.pointer (some ⟨1,121,none⟩),.pointer (some a),.int .u64 153])).events Zd w es=es:=by kernel_rfl
theorem XW (w:Zb)(es:Array ZU):(Rtype.directlyAssignable 121 121).events Zd w es=es:=by kernel_rfl
end Go.Proofs.Fit
namespace Go.Proofs.Fit
open Go Go.RowKit Go.Extern.Stop Go.Stop Go.Extern Go.Conc
theorem cT (a p:Addr)(W:Zb)(es:Array ZU)(ha:W.cell? a=some (.pointer (some p))):
  (ReflectliteValue.method (ReflectliteValue.valueError "reflectlite.Value.IsNil" 0) ReflectliteValue.isNil #[.agg #[.pointer (some ⟨1,123,none⟩),.pointer (some a),.int .u64 150]]).events Zd W es=es.push ⟨.cell a,false,false⟩:=by
 rw[fJ];simp only[Sem.events_bind,Ji,RS,Zao];simp[ReflectliteValue.isNil,loadVar,isAgg,underlying,ZaO,ha,Zao,events_load]
 rfl
theorem cU (a p:Addr)(W:Zb)(es:Array ZU)(ha:W.cell? a=some (.pointer (some p))):
  (ReflectliteValue.method (ReflectliteValue.valueError "reflectlite.Value.Elem" 0) ReflectliteValue.elem #[.agg #[.pointer (some ⟨1,123,none⟩),.pointer (some a),.int .u64 150]]).events Zd W es=es.push ⟨.cell a,false,false⟩:=by
 rw[fJ];simp only[Sem.events_bind,Ji,RS,Zao];simp[ReflectliteValue.elem,loadVar,isAgg,underlying,ZaO,ha,Zao,events_load,Py,XU,rM]
 rfl
theorem ni (ta b:Addr)(n:Int)(old:Zc)(W:Zb)(es:Array ZU)(hb:W.cell? b=some (.int .i64 n))(ht:W.cell? ta=some old)(hf:W.frozen? ta=false):
  (ReflectliteValue.set #[.agg #[.pointer (some ⟨1,121,none⟩),.pointer (some ta),.int .u64 409],.agg #[.pointer (some ⟨1,121,none⟩),.pointer (some b),.int .u64 153]]).events Zd W es
   =(es.push ⟨.cell b,false,false⟩).push ⟨.cell ta,true,false⟩:=by
 rw[vd];simp only[Sem.events_bind,Pz,RR,XV,cS,Zao];simp[ReflectliteValue.flagAddr,loadVar,isAgg,underlying,Tryz.underlying121,Zao,loadCells,loadCellsFrom,Addr.add,hb,PD,XW,storeVar,Value.cells,storeCells,events_load];rw[events_store _ _ _ ta _ _ rfl];simp[ht,hf]
 rfl
end Go.Proofs.Fit
set_option linter.unusedSimpArgs false
namespace Go.Proofs.Fit
open Go Go.Conc Go.ConcX Go.RowKit Go.Conc.Lib Go.ConcX.Gen Go.Extern
theorem Bi {Shun:Loc→Prop}{B f:Nat}{wr sy:Bool}:EvL Shun B ⟨.mark (.extern f),wr,sy⟩:=by
 refine⟨fun x hx _=>?_,by simp,by simp,?_⟩
 ·simp[ZK,zV]at hx
 ·simp[ZK,MemAct.low]
theorem fK (a0 a1:Zc)(cs:List ZA):Go.BK.AO (Zq Zd 91 #[a0,a1] .normal) cs=G ((base 91).at ⟨#[a0,a1,Ze,Ze,Ze,Ze,Ze,Ze,Ze,Ze,Ze,Ze,Ze,Ze,Ze,Ze,Ze,Ze,Ze,Ze,Ze,Ze,Ze,Ze,Ze,Ze,Ze,Ze,Ze,Ze,Ze,Ze,Ze,Ze,Ze,Ze,Ze,Ze,Ze,Ze,Ze,Ze],[]⟩ [.code (Tryz.f91.body.getD .skip)]) cs:=by
 simp[Go.BK.AO,G,Zq,Frame.at,base,Tryz.func91,YI]
theorem aeK (w:Zb)(es:Array ZU):(binOp .eql 117 .nilIface .nilIface).events Zd w es=es:=by kernel_rfl
theorem aeL (n:Int)(w:Zb):(binOp .eql 117 (.iface 121 (.agg #[.int .i64 n])) .nilIface).run Zd w=.ok (.bool false) w:=by kernel_rfl
theorem yn (n:Int)(w:Zb)(es:Array ZU):(binOp .eql 117 (.iface 121 (.agg #[.int .i64 n])) .nilIface).events Zd w es=es:=by kernel_rfl
theorem aeM (a:Addr)(w:Zb):(binOp .eql 20 (.iface 123 (.pointer (some a))) .nilIface).run Zd w=.ok (.bool false) w:=by kernel_rfl
theorem yp (a:Addr)(w:Zb)(es:Array ZU):(binOp .eql 20 (.iface 123 (.pointer (some a))) .nilIface).events Zd w es=es:=by kernel_rfl
theorem aeN (w:Zb):(binOp .neq 190 (.int .u8 22) (.int .u8 22)).run Zd w=.ok (.bool false) w:=by kernel_rfl
theorem yq (w:Zb)(es:Array ZU):(binOp .neq 190 (.int .u8 22) (.int .u8 22)).events Zd w es=es:=by kernel_rfl
theorem aeO (w:Zb):(binOp .neq 190 (.int .u8 25) (.int .u8 20)).run Zd w=.ok (.bool true) w:=by kernel_rfl
theorem yr (w:Zb)(es:Array ZU):(binOp .neq 190 (.int .u8 25) (.int .u8 20)).events Zd w es=es:=by kernel_rfl
theorem XY {Shun:Loc→Prop}{B:Nat}{W:Zb}{t:Zc}{f':ZA}{cs:List ZA}:
  Goes Zd true AtRel (DE (EvL Shun B)) (fun g w=>g=G (f'.finish (.bool false)) cs∧∃d,w=W.at d) 20 (Go.BK.AO (Zq Zd 91 #[.nilIface,t] .normal) (f'::cs)) W:=by
 rw[fK];have hb:=aeK;simp only[YI,Zw]
 l_c Zn
 l_reg
 l_op
 l_c Zf
 l_c Zn
 l_c Zn
 l_reg
 l_op
 l_op
 l_c Zf
 l_cond true
 l_c Zn
 l_reg
 l_op
 l_c Zf
 l_c zO
 refine Goes.step rfl (fun w₁ BJ=>?_);obtain⟨dd,OZ⟩:=BJ;subst OZ;rw[stepG_leave (v:=.bool false) (fn:=YI) rfl rfl Tryz.func91 (results_tmp Tryz.results91 _ _ _) (events_results_tmp Tryz.results91 _ _)];simp only[goes_go];refine⟨by u_nil,?_⟩;refine ZQ (fun w₁ BJ=>?_);obtain⟨d,hd⟩:=BJ;subst hd;exact⟨rfl,d,rfl⟩
end Go.Proofs.Fit
namespace Go.Proofs.Fit
open Go Go.Conc Go.RowKit Go.Extern
theorem aeP (args:Array Zc)(w:Zb):(Zz 146 args).run Zd w=(((fun args=>ReflectliteValue.unpack (args.getD 0 (.tuple #[]))) args).run Zd w).andThen fun v w'=>.ok (.value v) w':=
 @run_callFunc_extern Zd 146 _ (fun args=>ReflectliteValue.unpack (args.getD 0 (.tuple #[]))) Tryz.func146 (by kernel_rfl) (by kernel_rfl) (by kernel_rfl) (by kernel_rfl) args w
theorem d146 (args:Array Zc)(w:Zb)(es:Array ZU):(Zz 146 args).events Zd w es=((fun args=>ReflectliteValue.unpack (args.getD 0 (.tuple #[]))) args).events Zd w (es.push ⟨.mark (.extern 146),false,true⟩):=
 @events_callFunc_extern Zd w 146 _ (fun args=>ReflectliteValue.unpack (args.getD 0 (.tuple #[]))) Tryz.func146 (by kernel_rfl) (by kernel_rfl) (by kernel_rfl) (by kernel_rfl) args es
theorem ajE (args:Array Zc)(w:Zb):(Zz 147 args).run Zd w=(((ReflectliteValue.methodAny (ReflectliteValue.valueError "reflectlite.Value.Type" 0) (fun t _ _ _=>ReflectliteType.toType t)) args).run Zd w).andThen fun v w'=>.ok (.value v) w':=
 @run_callFunc_extern Zd 147 _ (ReflectliteValue.methodAny (ReflectliteValue.valueError "reflectlite.Value.Type" 0) (fun t _ _ _=>ReflectliteType.toType t)) Tryz.func147 (by kernel_rfl) (by kernel_rfl) (by kernel_rfl) (by kernel_rfl) args w
theorem d147 (args:Array Zc)(w:Zb)(es:Array ZU):(Zz 147 args).events Zd w es=((ReflectliteValue.methodAny (ReflectliteValue.valueError "reflectlite.Value.Type" 0) (fun t _ _ _=>ReflectliteType.toType t)) args).events Zd w (es.push ⟨.mark (.extern 147),false,true⟩):=
 @events_callFunc_extern Zd w 147 _ (ReflectliteValue.methodAny (ReflectliteValue.valueError "reflectlite.Value.Type" 0) (fun t _ _ _=>ReflectliteType.toType t)) Tryz.func147 (by kernel_rfl) (by kernel_rfl) (by kernel_rfl) (by kernel_rfl) args es
theorem ajF (args:Array Zc)(w:Zb):(Zz 148 args).run Zd w=(((ReflectliteValue.method (ReflectliteValue.valueError "reflectlite.Value.IsNil" 0) ReflectliteValue.isNil) args).run Zd w).andThen fun v w'=>.ok (.value v) w':=
 @run_callFunc_extern Zd 148 _ (ReflectliteValue.method (ReflectliteValue.valueError "reflectlite.Value.IsNil" 0) ReflectliteValue.isNil) Tryz.func148 (by kernel_rfl) (by kernel_rfl) (by kernel_rfl) (by kernel_rfl) args w
theorem d148 (args:Array Zc)(w:Zb)(es:Array ZU):(Zz 148 args).events Zd w es=((ReflectliteValue.method (ReflectliteValue.valueError "reflectlite.Value.IsNil" 0) ReflectliteValue.isNil) args).events Zd w (es.push ⟨.mark (.extern 148),false,true⟩):=
 @events_callFunc_extern Zd w 148 _ (ReflectliteValue.method (ReflectliteValue.valueError "reflectlite.Value.IsNil" 0) ReflectliteValue.isNil) Tryz.func148 (by kernel_rfl) (by kernel_rfl) (by kernel_rfl) (by kernel_rfl) args es
theorem aeQ (args:Array Zc)(w:Zb):(Zz 207 args).run Zd w=(((ReflectliteType.abiMethod fun t=>do pure (.int .u8 (←Rtype.kind t))) args).run Zd w).andThen fun v w'=>.ok (.value v) w':=
 @run_callFunc_extern Zd 207 _ (ReflectliteType.abiMethod fun t=>do pure (.int .u8 (←Rtype.kind t))) Tryz.func207 (by kernel_rfl) (by kernel_rfl) (by kernel_rfl) (by kernel_rfl) args w
theorem d207 (args:Array Zc)(w:Zb)(es:Array ZU):(Zz 207 args).events Zd w es=((ReflectliteType.abiMethod fun t=>do pure (.int .u8 (←Rtype.kind t))) args).events Zd w (es.push ⟨.mark (.extern 207),false,true⟩):=
 @events_callFunc_extern Zd w 207 _ (ReflectliteType.abiMethod fun t=>do pure (.int .u8 (←Rtype.kind t))) Tryz.func207 (by kernel_rfl) (by kernel_rfl) (by kernel_rfl) (by kernel_rfl) args es
theorem ajG (args:Array Zc)(w:Zb):(Zz 218 args).run Zd w=(((ReflectliteType.method ReflectliteType.elem) args).run Zd w).andThen fun v w'=>.ok (.value v) w':=
 @run_callFunc_extern Zd 218 _ (ReflectliteType.method ReflectliteType.elem) Tryz.func218 (by kernel_rfl) (by kernel_rfl) (by kernel_rfl) (by kernel_rfl) args w
theorem d218 (args:Array Zc)(w:Zb)(es:Array ZU):(Zz 218 args).events Zd w es=((ReflectliteType.method ReflectliteType.elem) args).events Zd w (es.push ⟨.mark (.extern 218),false,true⟩):=
 @events_callFunc_extern Zd w 218 _ (ReflectliteType.method ReflectliteType.elem) Tryz.func218 (by kernel_rfl) (by kernel_rfl) (by kernel_rfl) (by kernel_rfl) args es
theorem ajH (args:Array Zc)(w:Zb):(Zz 219 args).run Zd w=(((ReflectliteType.relation "Implements" ReflectliteType.implements_) args).run Zd w).andThen fun v w'=>.ok (.value v) w':=
 @run_callFunc_extern Zd 219 _ (ReflectliteType.relation "Implements" ReflectliteType.implements_) Tryz.func219 (by kernel_rfl) (by kernel_rfl) (by kernel_rfl) (by kernel_rfl) args w
theorem d219 (args:Array Zc)(w:Zb)(es:Array ZU):(Zz 219 args).events Zd w es=((ReflectliteType.relation "Implements" ReflectliteType.implements_) args).events Zd w (es.push ⟨.mark (.extern 219),false,true⟩):=
 @events_callFunc_extern Zd w 219 _ (ReflectliteType.relation "Implements" ReflectliteType.implements_) Tryz.func219 (by kernel_rfl) (by kernel_rfl) (by kernel_rfl) (by kernel_rfl) args es
theorem ajI (args:Array Zc)(w:Zb):(Zz 163 args).run Zd w=((ReflectliteType.typeOf args).run Zd w).andThen fun v w'=>.ok (.value v) w':=
 @run_callFunc_extern Zd 163 _ ReflectliteType.typeOf Tryz.func163 (by kernel_rfl) (by kernel_rfl) (by kernel_rfl) (by kernel_rfl) args w
theorem d163 (args:Array Zc)(w:Zb)(es:Array ZU):(Zz 163 args).events Zd w es=(ReflectliteType.typeOf args).events Zd w (es.push ⟨.mark (.extern 163),false,true⟩):=
 @events_callFunc_extern Zd w 163 _ ReflectliteType.typeOf Tryz.func163 (by kernel_rfl) (by kernel_rfl) (by kernel_rfl) (by kernel_rfl) args es
theorem ajJ (args:Array Zc)(w:Zb):(Zz 216 args).run Zd w=(((ReflectliteType.relation "AssignableTo" ReflectliteType.assignableTo) args).run Zd w).andThen fun v w'=>.ok (.value v) w':=
 @run_callFunc_extern Zd 216 _ (ReflectliteType.relation "AssignableTo" ReflectliteType.assignableTo) Tryz.func216 (by kernel_rfl) (by kernel_rfl) (by kernel_rfl) (by kernel_rfl) args w
theorem d216 (args:Array Zc)(w:Zb)(es:Array ZU):(Zz 216 args).events Zd w es=((ReflectliteType.relation "AssignableTo" ReflectliteType.assignableTo) args).events Zd w (es.push ⟨.mark (.extern 216),false,true⟩):=
 @events_callFunc_extern Zd w 216 _ (ReflectliteType.relation "AssignableTo" ReflectliteType.assignableTo) Tryz.func216 (by kernel_rfl) (by kernel_rfl) (by kernel_rfl) (by kernel_rfl) args es
theorem ajK (args:Array Zc)(w:Zb):(Zz 164 args).run Zd w=(((ReflectliteValue.method (ReflectliteValue.valueError "reflectlite.Value.Elem" 0) ReflectliteValue.elem) args).run Zd w).andThen fun v w'=>.ok (.value v) w':=
 @run_callFunc_extern Zd 164 _ (ReflectliteValue.method (ReflectliteValue.valueError "reflectlite.Value.Elem" 0) ReflectliteValue.elem) Tryz.func164 (by kernel_rfl) (by kernel_rfl) (by kernel_rfl) (by kernel_rfl) args w
theorem d164 (args:Array Zc)(w:Zb)(es:Array ZU):(Zz 164 args).events Zd w es=((ReflectliteValue.method (ReflectliteValue.valueError "reflectlite.Value.Elem" 0) ReflectliteValue.elem) args).events Zd w (es.push ⟨.mark (.extern 164),false,true⟩):=
 @events_callFunc_extern Zd w 164 _ (ReflectliteValue.method (ReflectliteValue.valueError "reflectlite.Value.Elem" 0) ReflectliteValue.elem) Tryz.func164 (by kernel_rfl) (by kernel_rfl) (by kernel_rfl) (by kernel_rfl) args es
theorem ajL (args:Array Zc)(w:Zb):(Zz 165 args).run Zd w=((ReflectliteValue.set args).run Zd w).andThen fun v w'=>.ok (.value v) w':=
 @run_callFunc_extern Zd 165 _ ReflectliteValue.set Tryz.func165 (by kernel_rfl) (by kernel_rfl) (by kernel_rfl) (by kernel_rfl) args w
theorem d165 (args:Array Zc)(w:Zb)(es:Array ZU):(Zz 165 args).events Zd w es=(ReflectliteValue.set args).events Zd w (es.push ⟨.mark (.extern 165),false,true⟩):=
 @events_callFunc_extern Zd w 165 _ ReflectliteValue.set Tryz.func165 (by kernel_rfl) (by kernel_rfl) (by kernel_rfl) (by kernel_rfl) args es
end Go.Proofs.Fit
namespace Go.Proofs.Fit
open Go Go.RowKit Go.Extern
theorem nj (h:Zc)(w:Zb):(ZaU 383 220 (.agg #[h]) "Kind").run Zd w=.ok (207,h) w:=by kernel_rfl
theorem yu (h:Zc)(w:Zb):(ZaU 383 220 (.agg #[h]) "Elem").run Zd w=.ok (218,.agg #[h]) w:=by kernel_rfl
theorem yv (h:Zc)(w:Zb):(ZaU 383 220 (.agg #[h]) "Implements").run Zd w=.ok (219,.agg #[h]) w:=by kernel_rfl
theorem nn (h:Zc)(w:Zb):(ZaU 383 220 (.agg #[h]) "AssignableTo").run Zd w=.ok (216,.agg #[h]) w:=by kernel_rfl
theorem nu (h:Zc)(w:Zb)(es:Array ZU):(ZaU 383 220 (.agg #[h]) "Kind").events Zd w es=es:=by kernel_rfl
theorem yw (h:Zc)(w:Zb)(es:Array ZU):(ZaU 383 220 (.agg #[h]) "Elem").events Zd w es=es:=by kernel_rfl
theorem yx (h:Zc)(w:Zb)(es:Array ZU):(ZaU 383 220 (.agg #[h]) "Implements").events Zd w es=es:=by kernel_rfl
theorem nv (h:Zc)(w:Zb)(es:Array ZU):(ZaU 383 220 (.agg #[h]) "AssignableTo").events Zd w es=es:=by kernel_rfl
end Go.Proofs.Fit
set_option linter.unusedSimpArgs false
namespace Go.Proofs.Fit
open Go Go.Conc Go.ConcX Go.RowKit Go.Conc.Lib Go.ConcX.Gen Go.Extern
def hand (t:Nat):Zc:=.pointer (some ⟨1,t,none⟩)
def Kt (m:Nat):Array Zc:= #[hand 123,.pointer (some ⟨m,0,none⟩),.int .u64 150]
structure Va (W W2:Zb)(t k:Nat):Prop where
 size:W2.heap.size=W.heap.size+k
 old:∀b,b<W.heap.size→W2.heap[b]?=W.heap[b]?
 c0:W2.cell? ⟨W.heap.size,0,none⟩=some (.pointer (some ⟨t,0,none⟩))
 b1:W2.heap[W.heap.size+1]?=some (.cells (Kt W.heap.size) 185 (0,0))
 os:W2.os=W.os
 tape:W2.tape=W.tape
 output:W2.output=W.output
theorem Va.cells {W W2:Zb}{t k:Nat}(h:Va W W2 t k):W2.cell? ⟨W.heap.size+1,0,none⟩=some (hand 123)∧W2.cell? ⟨W.heap.size+1,1,none⟩=some (.pointer (some ⟨W.heap.size,0,none⟩))∧W2.cell? ⟨W.heap.size+1,2,none⟩=some (.int .u64 150):=by
 unfold zJ;rw[h.b1];exact⟨rfl,rfl,rfl⟩
theorem Va.at {W W2:Zb}{t k:Nat}(h:Va W W2 t k)(d:Nat):Va W (W2.at d) t k:=⟨h.size,h.old,h.c0,h.b1,h.os,h.tape,h.output⟩
theorem Va.alloc {W W2:Zb}{t k:Nat}(h:Va W W2 t k)(hk:2≤k)(o:Obj):Va W (W2.alloc o) t (k+1):=by
 have hs:=h.size;have ho:∀b,b<W2.heap.size→(W2.alloc o).heap[b]?=W2.heap[b]? :=fun b hb=>zx _ _ _ hb;refine⟨by simp[hs];omega,fun b hb=>(ho b (by omega)).trans (h.old b hb),?_,(ho _ (by omega)).trans h.b1,h.os,h.tape,h.output⟩;exact(zo (a:=⟨W.heap.size,0,none⟩) (ho _ (by show W.heap.size<_;omega))).trans h.c0
theorem nw (W:Zb)(t d:Nat):Va W ((((((W.alloc (.cells #[.pointer (some ⟨t,0,none⟩)] 123)).alloc (.cells #[.pointer none,.pointer none,.int .u64 0] 185)).at d).setCell ⟨W.heap.size+1,0,none⟩ (hand 123)).setCell ⟨W.heap.size+1,1,none⟩ (.pointer (some ⟨W.heap.size,0,none⟩))).setCell ⟨W.heap.size+1,2,none⟩ (.int .u64 150)) t 2:=by
 have hh:∀b,b<W.heap.size+1→((((((W.alloc (.cells #[.pointer (some ⟨t,0,none⟩)] 123)).alloc (.cells #[.pointer none,.pointer none,.int .u64 0] 185)).at d).setCell ⟨W.heap.size+1,0,none⟩ (hand 123)).setCell ⟨W.heap.size+1,1,none⟩ (.pointer (some ⟨W.heap.size,0,none⟩))).setCell ⟨W.heap.size+1,2,none⟩ (.int .u64 150)).heap[b]?=(W.alloc (.cells #[.pointer (some ⟨t,0,none⟩)] 123)).heap[b]? :=fun b hb=>by
  rw[Y9 _ _ _ _ (by show b≠W.heap.size+1;omega),Y9 _ _ _ _ (by show b≠W.heap.size+1;omega),Y9 _ _ _ _ (by show b≠W.heap.size+1;omega)];exact zx _ _ _ (by simp;omega)
 refine⟨by simp only[Z1,Array.size_modify];show((W.alloc _).alloc _).heap.size=_;simp,fun b hb=>?_,?_,?_,rfl,rfl,rfl⟩
 ·rw[hh b (by omega),zx _ _ _ hb]
 ·unfold zJ
  rw[hh _ (by show W.heap.size<_;omega)];have e:(W.alloc (.cells #[.pointer (some ⟨t,0,none⟩)] 123)).heap[W.heap.size]?=some (.cells #[.pointer (some ⟨t,0,none⟩)] 123 (0,0)):=Array.getElem?_push_size;rw[e]
  rfl
 ·unfold Z1
  have e:((W.alloc (.cells #[.pointer (some ⟨t,0,none⟩)] 123)).alloc (.cells #[.pointer none,.pointer none,.int .u64 0] 185)).heap[W.heap.size+1]?=some (.cells #[.pointer none,.pointer none,.int .u64 0] 185 (0,0)):=by
   have:= @Array.getElem?_push_size _ ((W.alloc (.cells #[.pointer (some ⟨t,0,none⟩)] 123)).heap) (Obj.cells #[.pointer none,.pointer none,.int .u64 0] 185);have h2:(W.alloc (.cells #[.pointer (some ⟨t,0,none⟩)] 123)).heap.size=W.heap.size+1:=by simp
   rw[h2]at this;exact this
  simp only[Zag,if_pos];show((((W.alloc _).alloc _).heap[W.heap.size+1]?.map _).map _).map _=_;rw[e]
  rfl
theorem rN (P:Zp)(w:Zb)(es:Array ZU)(a:Addr)(m:Mode)(b:Option Addr):(store a (.pointer b) m).events P w es=Yf P w es a (.pointer b) m:=events_store P w es a _ m rfl
def JX:Code→Code
 | .seq a _=>a
 |c=>c
def Fh:Code→Code
 | .seq _ b=>b
 |c=>c
def Vw:Code→Code
 | .block _ c=>c
 | .loop c=>c
 |c=>c
def Gc:Code→Array Oper
 | .region _ ops _=>ops
 |_=> #[]
noncomputable def FI:Code:=Tryz.f91.body.getD .skip
noncomputable def IM:Code:=Fh FI
noncomputable def IP:Code:=Fh IM
noncomputable def IQ:Code:=Fh IP
noncomputable def He:Code:=Fh IQ
noncomputable def Hf:Code:=Fh He
noncomputable def Hg:Code:=Fh Hf
noncomputable def EG:Code:=Fh Hg
noncomputable def EH:Code:=Fh EG
noncomputable def Dj:Array Oper:=Gc (JX EH)
theorem ajM {Shun:Loc→Prop}{B:Nat}{W:Zb}{n:Int}{t:Nat}{f':ZA}{cs:List ZA}(hS:∀p:Addr,p.block=0∨p.block=t∨W.heap.size≤p.block→¬Shun (.cell p))(hB:W.heap.size+4≤B):
  Goes Zd true AtRel (DE (EvL Shun B)) (fun g w=>∃v2 v3 v6 v7 v8 v9 v10 v11 O3 O4 O5 O6 O7 O8 O9 O_ v20 O' Pa Pb Pc Pd Pe Pf Pg Ph v30 Pj Pk Pl Pm Pn Po TS TU TV TW Pp W3,g=G ((base 91).at ⟨#[.iface 121 (.agg #[.int .i64 n]),.iface 123 (.pointer (some ⟨t,0,none⟩)),v2,v3,(.bool false),(.pointer (some ⟨W.heap.size+1,0,none⟩)),v6,v7,v8,v9,v10,v11,O3,O4,O5,O6,O7,O8,O9,O_,v20,O',Pa,Pb,Pc,Pd,Pe,Pf,Pg,Ph,v30,Pj,Pk,Pl,Pm,Pn,Po,TS,TU,TV,TW,Pp],[]⟩ [.code He]) (f'::cs)∧Va W W3 t 2∧w=W3) 60
   (Go.BK.AO (Zq Zd 91 #[.iface 121 (.agg #[.int .i64 n]),.iface 123 (.pointer (some ⟨t,0,none⟩))] .normal) (f'::cs)) W:=by
 rw[fK];have e1:=yn;have e2:=yp;have e3:=aeL;have e4:=aeM;have e7:=rN Zd;simp only[YI,Zw]
 l_c Zn
 l_reg
 l_op
 l_c Zf
 l_c Zn
 l_c Zn
 l_reg
 l_op
 l_op
 l_c Zf
 l_cond false
 l_c ZL
 l_c Zn
 l_c Zn
 l_reg
 l_op
 l_op
 l_c Zf
 l_cond false
 l_c ZL
 l_c Zn
 l_reg
 l_op
 have z0:=aeP;have z1:=d146;have z2:=cL;have z3:=cQ
 l_in
 refine zm rfl rfl (by decide) (fun K hK=>?_)
 go_simp
 refine hK _ _ ⟨fun e he=>?_,?_⟩
 ·have hm:=zy he
  simp[go_sem,Yf, *]at hm
  (repeat' (rcases hm with hm|hm))
  all_goals (try subst hm)
  all_goals first|exact Bi|exact Yy _ _ (hS _ (by simp)) (by show _<B;simp<;>omega)
 clear hK K;clear z0 z1 z2 z3
 i_opw (hS _ (by simp<;>omega))
 l_in
 rename_i dq;refine zm rfl rfl (by decide) (fun K hK=>?_)
 go_simp
 refine hK _ _ ⟨fun e he=>?_,?_⟩
 ·have hm:=zy he
  simp[go_sem,Yf, *]at hm;rcases hm with rfl|rfl|rfl
  all_goals exact Yy _ _ (hS _ (by simp)) (by show W.heap.size+1<B;omega)
 clear hK K;have hV:=nw W t dq;unfold hand at hV;generalize Z1 (Z1 (Z1 _ _ _) _ _) _ _=W2 at hV⊢;clear e1 e2 e3 e4 e7
 l_c Zf
 refine ZQ (fun w₁ BJ=>?_);obtain⟨d,hd⟩:=BJ;subst hd
 try simp only[hand,EH,EG,Hg,Hf,He,IQ,IP,IM,FI,Fh,JX,Gc,Dj,YI,Zw]
 exact⟨_,_,_,_,_,_,_,_,_,_,_,_,_,_,_,_,_,_,_,_,_,_,_,_,_,_,_,_,_,_,_,_,_,_,_,_,_,_,_,rfl,hV.at _,rfl⟩
theorem ajN {Shun:Loc→Prop}{B:Nat}{W W2:Zb}{n:Int}{t:Nat}{f':ZA}{cs:List ZA}{v2 v3 v6 v7 v8 v9 v10 v11 O3 O4 O5 O6 O7 O8 O9 O_ v20 O' Pa Pb Pc Pd Pe Pf Pg Ph v30 Pj Pk Pl Pm Pn Po TS TU TV TW Pp:Zc}(hS:∀p:Addr,p.block=0∨p.block=t∨W.heap.size≤p.block→¬Shun (.cell p))(hB:W.heap.size+4≤B)
  (hV:Va W W2 t 2):Goes Zd true AtRel (DE (EvL Shun B)) (fun g w=>∃v2 v3 v7 v8 v9 v10 v11 O3 O4 O5 O6 O7 O8 O9 O_ v20 O' Pa Pb Pc Pd Pe Pf Pg Ph v30 Pj Pk Pl Pm Pn Po TS TU TV TW Pp W3,g=G ((base 91).at ⟨#[.iface 121 (.agg #[.int .i64 n]),.iface 123 (.pointer (some ⟨t,0,none⟩)),v2,v3,(.bool false),(.pointer (some ⟨W.heap.size+1,0,none⟩)),(.iface 220 (.agg #[hand 123])),v7,v8,v9,v10,v11,O3,O4,O5,O6,O7,O8,O9,O_,v20,O',Pa,Pb,Pc,Pd,Pe,Pf,Pg,Ph,v30,Pj,Pk,Pl,Pm,Pn,Po,TS,TU,TV,TW,Pp],[]⟩ [.code Hf]) (f'::cs)∧Va W W3 t 2∧w=W3) 60
   (G ((base 91).at ⟨#[.iface 121 (.agg #[.int .i64 n]),.iface 123 (.pointer (some ⟨t,0,none⟩)),v2,v3,(.bool false),(.pointer (some ⟨W.heap.size+1,0,none⟩)),v6,v7,v8,v9,v10,v11,O3,O4,O5,O6,O7,O8,O9,O_,v20,O',Pa,Pb,Pc,Pd,Pe,Pf,Pg,Ph,v30,Pj,Pk,Pl,Pm,Pn,Po,TS,TU,TV,TW,Pp],[]⟩ [.code He]) (f'::cs)) W2:=by
 simp only[hand,EH,EG,Hg,Hf,He,IQ,IP,IM,FI,Fh,JX,Gc,Dj,YI,Zw];have hA:=hV.cells;unfold hand at hA;obtain⟨q0,q1,q2⟩:=hA;have qp:=hV.c0;have D1:=hV.size
 l_c Zn
 l_reg
 l_in
 refine zm rfl rfl (by decide) (fun K hK=>?_)
 go_simp
 refine hK _ _ ⟨fun e he=>?_,?_⟩
 ·have hm:=zy he
  simp[go_sem,Yf, *]at hm
  (repeat' (rcases hm with hm|hm))
  all_goals (try subst hm)
  all_goals first|exact Bi|exact Yy _ _ (hS _ (by simp)) (by show _<B;simp<;>omega)
 clear hK K;have z0:=ajE;have z1:=d147;have z2:=iW;have z3:=ja
 l_in
 refine zm rfl rfl (by decide) (fun K hK=>?_)
 go_simp
 refine hK _ _ ⟨fun e he=>?_,?_⟩
 ·have hm:=zy he
  simp[go_sem,Yf, *]at hm
  (repeat' (rcases hm with hm|hm))
  all_goals (try subst hm)
  all_goals first|exact Bi|exact Yy _ _ (hS _ (by simp)) (by show _<B;simp<;>omega)
 clear hK K;clear z0 z1 z2 z3
 l_op
 l_c Zf
 refine ZQ (fun w₁ BJ=>?_);obtain⟨d,hd⟩:=BJ;subst hd
 try simp only[hand,EH,EG,Hg,Hf,He,IQ,IP,IM,FI,Fh,JX,Gc,Dj,YI,Zw]
 exact⟨_,_,_,_,_,_,_,_,_,_,_,_,_,_,_,_,_,_,_,_,_,_,_,_,_,_,_,_,_,_,_,_,_,_,_,_,_,_,rfl,hV.at _,rfl⟩
theorem ajO {Shun:Loc→Prop}{B:Nat}{W W2:Zb}{n:Int}{t:Nat}{f':ZA}{cs:List ZA}{v2 v3 v7 v8 v9 v10 v11 O3 O4 O5 O6 O7 O8 O9 O_ v20 O' Pa Pb Pc Pd Pe Pf Pg Ph v30 Pj Pk Pl Pm Pn Po TS TU TV TW Pp:Zc}(hS:∀p:Addr,p.block=0∨p.block=t∨W.heap.size≤p.block→¬Shun (.cell p))(hB:W.heap.size+4≤B)
  (hV:Va W W2 t 2):Goes Zd true AtRel (DE (EvL Shun B)) (fun g w=>∃v2 v3 v7 v8 v9 v10 v11 O3 O4 O5 O6 O7 O8 O9 O_ v20 O' Pa Pb Pc Pd Pe Pf Pg Ph v30 Pj Pk Pl Pm Pn Po TS TU TV TW Pp W3,g=G ((base 91).at ⟨#[.iface 121 (.agg #[.int .i64 n]),.iface 123 (.pointer (some ⟨t,0,none⟩)),v2,v3,(.bool false),(.pointer (some ⟨W.heap.size+1,0,none⟩)),(.iface 220 (.agg #[hand 123])),v7,v8,v9,v10,v11,O3,O4,O5,O6,O7,O8,O9,O_,v20,O',Pa,Pb,Pc,Pd,Pe,Pf,Pg,Ph,v30,Pj,Pk,Pl,Pm,Pn,Po,TS,TU,TV,TW,Pp],[]⟩ [.code Hg]) (f'::cs)∧Va W W3 t 2∧w=W3) 60
   (G ((base 91).at ⟨#[.iface 121 (.agg #[.int .i64 n]),.iface 123 (.pointer (some ⟨t,0,none⟩)),v2,v3,(.bool false),(.pointer (some ⟨W.heap.size+1,0,none⟩)),(.iface 220 (.agg #[hand 123])),v7,v8,v9,v10,v11,O3,O4,O5,O6,O7,O8,O9,O_,v20,O',Pa,Pb,Pc,Pd,Pe,Pf,Pg,Ph,v30,Pj,Pk,Pl,Pm,Pn,Po,TS,TU,TV,TW,Pp],[]⟩ [.code Hf]) (f'::cs)) W2:=by
 simp only[hand,EH,EG,Hg,Hf,He,IQ,IP,IM,FI,Fh,JX,Gc,Dj,YI,Zw];have hA:=hV.cells;unfold hand at hA;obtain⟨q0,q1,q2⟩:=hA;have qp:=hV.c0;have D1:=hV.size
 l_c Zn
 l_c Zn
 l_reg
 l_op
 have z0:=aeQ;have z1:=d207;have z2:=nj;have z3:=nu;have z4:=iX;have z5:=jb
 l_in
 refine zm rfl rfl (by decide) (fun K hK=>?_)
 go_simp
 refine hK _ _ ⟨fun e he=>?_,?_⟩
 ·have hm:=zy he
  simp[go_sem,Yf, *]at hm
  (repeat' (rcases hm with hm|hm))
  all_goals (try subst hm)
  all_goals first|exact Bi|exact Yy _ _ (hS _ (by simp)) (by show _<B;simp<;>omega)
 clear hK K;clear z0 z1 z2 z3 z4 z5;have e5:=aeN;have e6:=yq
 l_op
 clear e5 e6
 l_op
 l_in
 refine zm rfl rfl (by decide) (fun K hK=>?_)
 go_simp
 refine hK _ _ ⟨fun e he=>?_,?_⟩
 ·have hm:=zy he
  simp[go_sem,Yf, *]at hm
  (repeat' (rcases hm with hm|hm))
  all_goals (try subst hm)
  all_goals first|exact Bi|exact Yy _ _ (hS _ (by simp)) (by show _<B;simp<;>omega)
 clear hK K;have zi:=cM ⟨W.heap.size,0,none⟩ ⟨t,0,none⟩;have zj:=cT ⟨W.heap.size,0,none⟩ ⟨t,0,none⟩;have z0:=ajF;have z1:=d148
 l_in
 refine zm rfl rfl (by decide) (fun K hK=>?_)
 go_simp
 refine hK _ _ ⟨fun e he=>?_,?_⟩
 ·have hm:=zy he
  simp[go_sem,Yf, *]at hm
  (repeat' (rcases hm with hm|hm))
  all_goals (try subst hm)
  all_goals first|exact Bi|exact Yy _ _ (hS _ (by simp)) (by show _<B;simp<;>omega)
 clear hK K;clear z0 z1;clear zi zj
 l_op
 l_c Zf
 l_cond false
 l_c ZL
 refine ZQ (fun w₁ BJ=>?_);obtain⟨d,hd⟩:=BJ;subst hd
 try simp only[hand,EH,EG,Hg,Hf,He,IQ,IP,IM,FI,Fh,JX,Gc,Dj,YI,Zw]
 exact⟨_,_,_,_,_,_,_,_,_,_,_,_,_,_,_,_,_,_,_,_,_,_,_,_,_,_,_,_,_,_,_,_,_,_,_,_,_,_,rfl,hV.at _,rfl⟩
theorem ajP {Shun:Loc→Prop}{B:Nat}{W W2:Zb}{n:Int}{t:Nat}{f':ZA}{cs:List ZA}{v2 v3 v7 v8 v9 v10 v11 O3 O4 O5 O6 O7 O8 O9 O_ v20 O' Pa Pb Pc Pd Pe Pf Pg Ph v30 Pj Pk Pl Pm Pn Po TS TU TV TW Pp:Zc}(hS:∀p:Addr,p.block=0∨p.block=t∨W.heap.size≤p.block→¬Shun (.cell p))(hB:W.heap.size+4≤B)
  (hV:Va W W2 t 2):Goes Zd true AtRel (DE (EvL Shun B)) (fun g w=>∃v2 v3 v8 v9 v10 v11 O3 O4 O5 O6 O7 O8 O9 O_ v20 O' Pa Pb Pc Pd Pe Pf Pg Ph v30 Pj Pk Pl Pm Pn Po TS TU TV TW Pp W3,g=G ((base 91).at ⟨#[.iface 121 (.agg #[.int .i64 n]),.iface 123 (.pointer (some ⟨t,0,none⟩)),v2,v3,(.bool false),(.pointer (some ⟨W.heap.size+1,0,none⟩)),(.iface 220 (.agg #[hand 123])),(.iface 220 (.agg #[hand 121])),v8,v9,v10,v11,O3,O4,O5,O6,O7,O8,O9,O_,v20,O',Pa,Pb,Pc,Pd,Pe,Pf,Pg,Ph,v30,Pj,Pk,Pl,Pm,Pn,Po,TS,TU,TV,TW,Pp],[]⟩ [.code EG]) (f'::cs)∧Va W W3 t 2∧w=W3) 60
   (G ((base 91).at ⟨#[.iface 121 (.agg #[.int .i64 n]),.iface 123 (.pointer (some ⟨t,0,none⟩)),v2,v3,(.bool false),(.pointer (some ⟨W.heap.size+1,0,none⟩)),(.iface 220 (.agg #[hand 123])),v7,v8,v9,v10,v11,O3,O4,O5,O6,O7,O8,O9,O_,v20,O',Pa,Pb,Pc,Pd,Pe,Pf,Pg,Ph,v30,Pj,Pk,Pl,Pm,Pn,Po,TS,TU,TV,TW,Pp],[]⟩ [.code Hg]) (f'::cs)) W2:=by
 simp only[hand,EH,EG,Hg,Hf,He,IQ,IP,IM,FI,Fh,JX,Gc,Dj,YI,Zw];have hA:=hV.cells;unfold hand at hA;obtain⟨q0,q1,q2⟩:=hA;have qp:=hV.c0;have D1:=hV.size
 l_c Zn
 l_reg
 l_op
 have z0:=ajG;have z1:=d218;have z2:=yu;have z3:=yw;have z4:=iZ;have z5:=jd
 l_in
 refine zm rfl rfl (by decide) (fun K hK=>?_)
 go_simp
 refine hK _ _ ⟨fun e he=>?_,?_⟩
 ·have hm:=zy he
  simp[go_sem,Yf, *]at hm
  (repeat' (rcases hm with hm|hm))
  all_goals (try subst hm)
  all_goals first|exact Bi|exact Yy _ _ (hS _ (by simp)) (by show _<B;simp<;>omega)
 clear hK K;clear z0 z1 z2 z3 z4 z5
 l_op
 l_c Zf
 refine ZQ (fun w₁ BJ=>?_);obtain⟨d,hd⟩:=BJ;subst hd
 try simp only[hand,EH,EG,Hg,Hf,He,IQ,IP,IM,FI,Fh,JX,Gc,Dj,YI,Zw]
 exact⟨_,_,_,_,_,_,_,_,_,_,_,_,_,_,_,_,_,_,_,_,_,_,_,_,_,_,_,_,_,_,_,_,_,_,_,_,_,rfl,hV.at _,rfl⟩
theorem aeR {Shun:Loc→Prop}{B:Nat}{W W2:Zb}{n:Int}{t:Nat}{f':ZA}{cs:List ZA}{v2 v3 v8 v9 v10 v11 O3 O4 O5 O6 O7 O8 O9 O_ v20 O' Pa Pb Pc Pd Pe Pf Pg Ph v30 Pj Pk Pl Pm Pn Po TS TU TV TW Pp:Zc}(hS:∀p:Addr,p.block=0∨p.block=t∨W.heap.size≤p.block→¬Shun (.cell p))(hB:W.heap.size+4≤B)(hg:W.cell? ⟨0,0,none⟩=some (.iface 220 (.agg #[hand 117])))
  (hV:Va W W2 t 2):Goes Zd true AtRel (DE (EvL Shun B)) (fun g w=>∃v2 v3 v8 v9 v10 v11 O3 O4 O5 O6 O7 O8 O9 O_ v20 O' Pa Pb Pc Pd Pe Pf Pg Ph v30 Pj Pk Pl Pm Pn Po TS TU TV TW Pp W3,g=G ((base 91).at ⟨#[.iface 121 (.agg #[.int .i64 n]),.iface 123 (.pointer (some ⟨t,0,none⟩)),v2,v3,(.bool false),(.pointer (some ⟨W.heap.size+1,0,none⟩)),(.iface 220 (.agg #[hand 123])),(.iface 220 (.agg #[hand 121])),v8,v9,v10,v11,O3,O4,O5,O6,O7,O8,O9,O_,v20,O',Pa,Pb,Pc,Pd,Pe,Pf,Pg,Ph,v30,Pj,Pk,Pl,Pm,Pn,Po,TS,TU,TV,TW,Pp],[]⟩ [.code EH]) (f'::cs)∧Va W W3 t 2∧w=W3) 60
   (G ((base 91).at ⟨#[.iface 121 (.agg #[.int .i64 n]),.iface 123 (.pointer (some ⟨t,0,none⟩)),v2,v3,(.bool false),(.pointer (some ⟨W.heap.size+1,0,none⟩)),(.iface 220 (.agg #[hand 123])),(.iface 220 (.agg #[hand 121])),v8,v9,v10,v11,O3,O4,O5,O6,O7,O8,O9,O_,v20,O',Pa,Pb,Pc,Pd,Pe,Pf,Pg,Ph,v30,Pj,Pk,Pl,Pm,Pn,Po,TS,TU,TV,TW,Pp],[]⟩ [.code EG]) (f'::cs)) W2:=by
 simp only[hand,EH,EG,Hg,Hf,He,IQ,IP,IM,FI,Fh,JX,Gc,Dj,YI,Zw];have hA:=hV.cells;unfold hand at hA;obtain⟨q0,q1,q2⟩:=hA;have qp:=hV.c0;have D1:=hV.size;have rE:W2.cell? ⟨0,0,none⟩=some (.iface 220 (.agg #[.pointer (some ⟨1,117,none⟩)])):=(zo (a:=⟨0,0,none⟩) (hV.old 0 (ZH W _ hg))).trans hg;have h0l:0<W.heap.size:=ZH W _ hg
 l_c Zn
 l_c Zn
 l_reg
 l_op
 have z0:=aeQ;have z1:=d207;have z2:=nj;have z3:=nu;have z4:=iY;have z5:=jc
 l_in
 refine zm rfl rfl (by decide) (fun K hK=>?_)
 go_simp
 refine hK _ _ ⟨fun e he=>?_,?_⟩
 ·have hm:=zy he
  simp[go_sem,Yf, *]at hm
  (repeat' (rcases hm with hm|hm))
  all_goals (try subst hm)
  all_goals first|exact Bi|exact Yy _ _ (hS _ (by simp)) (by show _<B;simp<;>omega)
 clear hK K;clear z0 z1 z2 z3 z4 z5;have e5:=aeO;have e6:=yr
 l_op
 clear e5 e6
 l_op
 l_op
 l_in
 refine zm rfl rfl (by decide) (fun K hK=>?_)
 go_simp
 refine hK _ _ ⟨fun e he=>?_,?_⟩
 ·have hm:=zy he
  simp[go_sem,Yf, *]at hm
  (repeat' (rcases hm with hm|hm))
  all_goals (try subst hm)
  all_goals first|exact Bi|exact Yy _ _ (hS _ (by simp)) (by show _<B;simp<;>omega)
 clear hK K;have z0:=ajH;have z1:=d219;have z2:=yv;have z3:=yx;have z4:=i_;have z5:=je
 l_in
 refine zm rfl rfl (by decide) (fun K hK=>?_)
 go_simp
 refine hK _ _ ⟨fun e he=>?_,?_⟩
 ·have hm:=zy he
  simp[go_sem,Yf, *]at hm
  (repeat' (rcases hm with hm|hm))
  all_goals (try subst hm)
  all_goals first|exact Bi|exact Yy _ _ (hS _ (by simp)) (by show _<B;simp<;>omega)
 clear hK K;clear z0 z1 z2 z3 z4 z5
 l_op
 l_op
 l_c Zf
 l_cond false
 l_c ZL
 refine ZQ (fun w₁ BJ=>?_);obtain⟨d,hd⟩:=BJ;subst hd
 try simp only[hand,EH,EG,Hg,Hf,He,IQ,IP,IM,FI,Fh,JX,Gc,Dj,YI,Zw]
 exact⟨_,_,_,_,_,_,_,_,_,_,_,_,_,_,_,_,_,_,_,_,_,_,_,_,_,_,_,_,_,_,_,_,_,_,_,_,_,rfl,hV.at _,rfl⟩
end Go.Proofs.Fit
set_option linter.unusedSimpArgs false
namespace Go.Proofs.Fit
open Go Go.Conc Go.ConcX Go.RowKit Go.Conc.Lib Go.ConcX.Gen Go.Extern
theorem aeS:(Tryz.f149.name== "runtime.NumGoroutine")=false:=by kernel_rfl
def ny:Code→Code
 | .cond _ a _=>a
 |c=>c
noncomputable def HI:Code:=Tryz.f149.body.getD .skip
noncomputable def jf:Code:=Vw (Vw (Vw (Fh HI)))
noncomputable def Oq:Code:=ny (Fh (JX jf))
noncomputable def nz:List Item:=[.code (Fh jf),.inBlock 1,.inLoop (Vw (Vw (Fh HI))),.inBlock 0]
noncomputable def nA (m:Nat)(n:Int)(t:Nat)(v2 v3 v8 v9 v10 v11 O3 O4 O5 O6 O7 O8 O9 O_ v20 O' Pa Pb Pc Pd Pe Pf Pg Ph v30 Pj Pk Pl Pm Pn Po Pp:Zc)(rest:List Nat):ZA:=
 (base 91).at ⟨#[.iface 121 (.agg #[.int .i64 n]),.iface 123 (.pointer (some ⟨t,0,none⟩)),v2,v3,(.bool false),(.pointer (some ⟨m+1,0,none⟩)),(.iface 220 (.agg #[hand 123])),(.iface 220 (.agg #[hand 121])),v8,v9,v10,v11,O3,O4,O5,O6,O7,O8,O9,O_,v20,O',Pa,Pb,Pc,Pd,Pe,Pf,Pg,Ph,v30,Pj,Pk,Pl,Pm,Pn,Po,.iface 121 (.agg #[.int .i64 n]),.iface 123 (.pointer (some ⟨t,0,none⟩)),(.agg #[hand 123,.pointer (some ⟨m,0,none⟩),.int .u64 150]),(.iface 220 (.agg #[hand 121])),Pp],[]⟩ (.inRegion Dj rest:: [.code .ret])
theorem aeT {Shun:Loc→Prop}{B:Nat}{W W2:Zb}{n:Int}{t:Nat}{f':ZA}{cs:List ZA}{v2 v3 v8 v9 v10 v11 O3 O4 O5 O6 O7 O8 O9 O_ v20 O' Pa Pb Pc Pd Pe Pf Pg Ph v30 Pj Pk Pl Pm Pn Po TS TU TV TW Pp:Zc}(hS:∀p:Addr,p.block=0∨p.block=t∨W.heap.size≤p.block→¬Shun (.cell p))(hB:W.heap.size+4≤B)
  (hV:Va W W2 t 2):Goes Zd true AtRel (DE (EvL Shun B)) (fun g w=>∃v2 v3 v8 v9 v10 v11 O3 O4 O5 O6 O7 O8 O9 O_ v20 O' Pa Pb Pc Pd Pe Pf Pg Ph v30 Pj Pk Pl Pm Pn Po Pp W3,g=G ((base 149).at ⟨#[.iface 121 (.agg #[.int .i64 n]),.iface 123 (.pointer (some ⟨t,0,none⟩)),(.agg #[hand 123,.pointer (some ⟨W.heap.size,0,none⟩),.int .u64 150]),(.iface 220 (.agg #[hand 121])),Ze,Ze,Ze,Ze,Ze,Ze,Ze,Ze,Ze,Ze,Ze,Ze,Ze,Ze,Ze,Ze,Ze,Ze,Ze,Ze,Ze,Ze,Ze,Ze,Ze,Ze,Ze,Ze,Ze,Ze,Ze,Ze,Ze,Ze,Ze,Ze,Ze,Ze,Ze,Ze,Ze,Ze,Ze,Ze,Ze,Ze,Ze,Ze,Ze,Ze,Ze,Ze,Ze,Ze,Ze,Ze,Ze,Ze],[]⟩ [.code HI]) (nA W.heap.size n t v2 v3 v8 v9 v10 v11 O3 O4 O5 O6 O7 O8 O9 O_ v20 O' Pa Pb Pc Pd Pe Pf Pg Ph v30 Pj Pk Pl Pm Pn Po Pp [4,5]::f'::cs)∧Va W W3 t 2∧w=W3) 60
   (G ((base 91).at ⟨#[.iface 121 (.agg #[.int .i64 n]),.iface 123 (.pointer (some ⟨t,0,none⟩)),v2,v3,(.bool false),(.pointer (some ⟨W.heap.size+1,0,none⟩)),(.iface 220 (.agg #[hand 123])),(.iface 220 (.agg #[hand 121])),v8,v9,v10,v11,O3,O4,O5,O6,O7,O8,O9,O_,v20,O',Pa,Pb,Pc,Pd,Pe,Pf,Pg,Ph,v30,Pj,Pk,Pl,Pm,Pn,Po,TS,TU,TV,TW,Pp],[]⟩ [.code EH]) (f'::cs)) W2:=by
 simp only[hand,nA,EH,EG,Hg,Hf,He,IQ,IP,IM,FI,Fh,JX,Gc,Dj,YI,Zw];have hA:=hV.cells;unfold hand at hA;obtain⟨q0,q1,q2⟩:=hA;have qp:=hV.c0;have D1:=hV.size
 l_c Zn
 l_reg
 l_op
 l_op
 l_in
 refine zm rfl rfl (by decide) (fun K hK=>?_)
 go_simp
 refine hK _ _ ⟨fun e he=>?_,?_⟩
 ·have hm:=zy he
  simp[go_sem,Yf, *]at hm
  (repeat' (rcases hm with hm|hm))
  all_goals (try subst hm)
  all_goals first|exact Bi|exact Yy _ _ (hS _ (by simp)) (by show _<B;simp<;>omega)
 clear hK K
 l_op
 l_call Tryz.func149 aeS Tryz.f149
 refine ZQ (fun w₁ BJ=>?_);obtain⟨d,hd⟩:=BJ;subst hd
 try simp only[hand,nA,EH,EG,Hg,Hf,He,IQ,IP,IM,FI,Fh,JX,Gc,Dj,YI,Zw,Oq,jf,HI,Fh,JX,Vw,ny,Gc,Tryz.f149,Zw]
 exact⟨_,_,_,_,_,_,_,_,_,_,_,_,_,_,_,_,_,_,_,_,_,_,_,_,_,_,_,_,_,_,_,_,_,rfl,hV.at _,rfl⟩
theorem aeU {Shun:Loc→Prop}{B:Nat}{W W2:Zb}{n:Int}{t:Nat}{cs:List ZA}(hS:∀p:Addr,p.block=0∨p.block=t∨W.heap.size≤p.block→¬Shun (.cell p))(hB:W.heap.size+4≤B)
  (hV:Va W W2 t 2):Goes Zd true AtRel (DE (EvL Shun B)) (fun g w=>∃u4 u5 u7 u9 u10 u11 u12 u13 u14 u15 u16 u17 u18 u19 u20 u21 u22 u23 u24 u25 u26 u27 u28 u29 u30 u31 u32 u33 u34 u35 u36 u37 u38 u39 u40 u41 u42 u43 u44 u45 u46 u47 u48 u49 u50 u51 u52 u53 u54 u55 u56 u57 u58 u59 u60 u61 W3,g=G ((base 149).at ⟨#[.iface 121 (.agg #[.int .i64 n]),.iface 123 (.pointer (some ⟨t,0,none⟩)),(.agg #[hand 123,.pointer (some ⟨W.heap.size,0,none⟩),.int .u64 150]),(.iface 220 (.agg #[hand 121])),u4,u5,(.pointer (some ⟨W.heap.size+2,0,none⟩)),u7,(.bool false),u9,u10,u11,u12,u13,u14,u15,u16,u17,u18,u19,u20,u21,u22,u23,u24,u25,u26,u27,u28,u29,u30,u31,u32,u33,u34,u35,u36,u37,u38,u39,u40,u41,u42,u43,u44,u45,u46,u47,u48,u49,u50,u51,u52,u53,u54,u55,u56,u57,u58,u59,u60,u61],[]⟩ (.code Oq::nz)) cs∧(Va W W3 t 3∧W3.heap[W.heap.size+2]?=some (.cells (Kt W.heap.size) 185 (0,0)))∧w=W3) 60
   (G ((base 149).at ⟨#[.iface 121 (.agg #[.int .i64 n]),.iface 123 (.pointer (some ⟨t,0,none⟩)),(.agg #[hand 123,.pointer (some ⟨W.heap.size,0,none⟩),.int .u64 150]),(.iface 220 (.agg #[hand 121])),Ze,Ze,Ze,Ze,Ze,Ze,Ze,Ze,Ze,Ze,Ze,Ze,Ze,Ze,Ze,Ze,Ze,Ze,Ze,Ze,Ze,Ze,Ze,Ze,Ze,Ze,Ze,Ze,Ze,Ze,Ze,Ze,Ze,Ze,Ze,Ze,Ze,Ze,Ze,Ze,Ze,Ze,Ze,Ze,Ze,Ze,Ze,Ze,Ze,Ze,Ze,Ze,Ze,Ze,Ze,Ze,Ze,Ze],[]⟩ [.code HI]) cs) W2:=by
 simp only[hand,nz,Oq,jf,HI,Fh,JX,Vw,ny,Gc,Tryz.f149,Zw];have hA:=hV.cells;unfold hand at hA;obtain⟨q0,q1,q2⟩:=hA;have qp:=hV.c0;have D1:=hV.size
 l_c Zn
 l_reg
 have hV3:=hV.alloc (Zj _) (.cells (Kt W.heap.size) 185);have Vj:(W2.alloc (.cells (Kt W.heap.size) 185)).heap[W.heap.size+2]?=some (.cells (Kt W.heap.size) 185 (0,0)):=by
  rw[←D1];exact Array.getElem?_push_size
 unfold Kt hand at hV3 Vj
 l_in
 refine zm rfl rfl (by decide) (fun K hK=>?_)
 go_simp
 refine hK _ _ ⟨fun e he=>?_,?_⟩
 ·have hm:=zy he
  simp[go_sem,Yf, *]at hm
  (repeat' (rcases hm with hm|hm))
  all_goals (try subst hm)
  all_goals first|exact Bi|exact Yy _ _ (hS _ (by simp)) (by show _<B;simp<;>omega)
 clear hK K
 l_op
 l_c Zf
 l_c stepG_block
 l_c stepG_loop
 l_c stepG_block
 l_c Zn
 l_c Zn
 l_reg
 l_op
 have z0:=ajI;have z1:=d163;have z2:=XQ;have z3:=XS
 l_in
 refine zm rfl rfl (by decide) (fun K hK=>?_)
 go_simp
 refine hK _ _ ⟨fun e he=>?_,?_⟩
 ·have hm:=zy he
  simp[go_sem,Yf, *]at hm
  (repeat' (rcases hm with hm|hm))
  all_goals (try subst hm)
  all_goals first|exact Bi|exact Yy _ _ (hS _ (by simp)) (by show _<B;simp<;>omega)
 clear hK K;clear z0 z1 z2 z3
 l_op
 have z0:=ajJ;have z1:=d216;have z2:=nn;have z3:=nv;have z4:=XR;have z5:=XT
 l_in
 refine zm rfl rfl (by decide) (fun K hK=>?_)
 go_simp
 refine hK _ _ ⟨fun e he=>?_,?_⟩
 ·have hm:=zy he
  simp[go_sem,Yf, *]at hm
  (repeat' (rcases hm with hm|hm))
  all_goals (try subst hm)
  all_goals first|exact Bi|exact Yy _ _ (hS _ (by simp)) (by show _<B;simp<;>omega)
 clear hK K;clear z0 z1 z2 z3 z4 z5
 l_c Zf
 l_cond true
 refine ZQ (fun w₁ BJ=>?_);obtain⟨d,hd⟩:=BJ;subst hd
 try simp only[hand,Kt,nz,Oq,jf,HI,Fh,JX,Vw,ny,Gc,Tryz.f149,Zw]
 refine⟨_,_,_,_,_,_,_,_,_,_,_,_,_,_,_,_,_,_,_,_,_,_,_,_,_,_,_,_,_,_,_,_,_,_,_,_,_,_,_,_,_,_,_,_,_,_,_,_,_,_,_,_,_,_,_,_,_,rfl,⟨?_,?_⟩,rfl⟩
 ·exact hV3.at _
 ·exact Vj
theorem yy {Shun:Loc→Prop}{B:Nat}{W W2:Zb}{n:Int}{t:Nat}{old:Zc}{aeV:ZA}{cs:List ZA}{u4 u5 u7 u9 u10 u11 u12 u13 u14 u15 u16 u17 u18 u19 u20 u21 u22 u23 u24 u25 u26 u27 u28 u29 u30 u31 u32 u33 u34 u35 u36 u37 u38 u39 u40 u41 u42 u43 u44 u45 u46 u47 u48 u49 u50 u51 u52 u53 u54 u55 u56 u57 u58 u59 u60 u61:Zc}(hS:∀p:Addr,p.block=0∨p.block=t∨W.heap.size≤p.block→¬Shun (.cell p))(hB:W.heap.size+4≤B)(ht0:W.cell? ⟨t,0,none⟩=some old)(CO:W.frozen? ⟨t,0,none⟩=false)
  (hV:Va W W2 t 3) (ET:W2.heap[W.heap.size+2]?=some (.cells (Kt W.heap.size) 185 (0,0))):Goes Zd true AtRel (DE (EvL Shun B)) (fun g w=>g=G (aeV.finish (.bool true)) cs∧∃W4 d,Va W W4 t 4∧w=(W4.setCell ⟨t,0,none⟩ (.int .i64 n)).at d) 60
   (G ((base 149).at ⟨#[.iface 121 (.agg #[.int .i64 n]),.iface 123 (.pointer (some ⟨t,0,none⟩)),(.agg #[hand 123,.pointer (some ⟨W.heap.size,0,none⟩),.int .u64 150]),(.iface 220 (.agg #[hand 121])),u4,u5,(.pointer (some ⟨W.heap.size+2,0,none⟩)),u7,(.bool false),u9,u10,u11,u12,u13,u14,u15,u16,u17,u18,u19,u20,u21,u22,u23,u24,u25,u26,u27,u28,u29,u30,u31,u32,u33,u34,u35,u36,u37,u38,u39,u40,u41,u42,u43,u44,u45,u46,u47,u48,u49,u50,u51,u52,u53,u54,u55,u56,u57,u58,u59,u60,u61],[]⟩ (.code Oq::nz)) (aeV::cs)) W2:=by
 have bp:t<W.heap.size:=ZH W _ ht0;have hq:W2.cell? ⟨W.heap.size+2,0,none⟩=some (hand 123)∧W2.cell? ⟨W.heap.size+2,1,none⟩=some (.pointer (some ⟨W.heap.size,0,none⟩))∧W2.cell? ⟨W.heap.size+2,2,none⟩=some (.int .u64 150):=by
  unfold zJ;rw[ET];exact⟨rfl,rfl,rfl⟩
 unfold hand at hq;obtain⟨q0,q1,q2⟩:=hq;have qp:=hV.c0;have D1:=hV.size;have Vx:=hV.alloc (by omega) (.cells #[.int .i64 n] 121);have ho:∀b,b<W2.heap.size→(W2.alloc (.cells #[.int .i64 n] 121)).heap[b]?=W2.heap[b]? :=fun b hb=>zx _ _ _ hb;have hn4:(W2.alloc (.cells #[.int .i64 n] 121)).cell? ⟨W.heap.size+3,0,none⟩=some (.int .i64 n):=by
  rw[←D1,World.cell?_alloc_at _ _ _ _ (by simp)];rfl
 have hts:W2.heap[t]?=W.heap[t]? :=hV.old t bp;have ht4:(W2.alloc (.cells #[.int .i64 n] 121)).cell? ⟨t,0,none⟩=some old:=(zo (a:=⟨t,0,none⟩) ((ho t (by omega)).trans hts)).trans ht0;have hf4:(W2.alloc (.cells #[.int .i64 n] 121)).frozen? ⟨t,0,none⟩=false:=(World.frozen?_of_block (a:=⟨t,0,none⟩) ((ho t (by omega)).trans hts)).trans CO;clear ho hts ET;simp only[hand,nz,Oq,jf,HI,Fh,JX,Vw,ny,Gc,Tryz.f149,Zw]
 l_c Zn
 l_reg
 l_in
 refine zm rfl rfl (by decide) (fun K hK=>?_)
 go_simp
 refine hK _ _ ⟨fun e he=>?_,?_⟩
 ·have hm:=zy he
  simp[go_sem,Yf, *]at hm
  (repeat' (rcases hm with hm|hm))
  all_goals (try subst hm)
  all_goals first|exact Bi|exact Yy _ _ (hS _ (by simp)) (by show _<B;simp<;>omega)
 clear hK K;have zi:=cP ⟨W.heap.size,0,none⟩ ⟨t,0,none⟩;have zj:=cU ⟨W.heap.size,0,none⟩ ⟨t,0,none⟩;have z0:=ajK;have z1:=d164
 l_in
 refine zm rfl rfl (by decide) (fun K hK=>?_)
 go_simp
 refine hK _ _ ⟨fun e he=>?_,?_⟩
 ·have hm:=zy he
  simp[go_sem,Yf, *]at hm
  (repeat' (rcases hm with hm|hm))
  all_goals (try subst hm)
  all_goals first|exact Bi|exact Yy _ _ (hS _ (by simp)) (by show _<B;simp<;>omega)
 clear hK K;clear z0 z1;clear zi zj
 l_op
 have z0:=aeP;have z1:=d146;have z2:=cO;have z3:=cR
 l_in
 refine zm rfl rfl (by decide) (fun K hK=>?_)
 go_simp
 refine hK _ _ ⟨fun e he=>?_,?_⟩
 ·have hm:=zy he
  simp[go_sem,Yf, *]at hm
  (repeat' (rcases hm with hm|hm))
  all_goals (try subst hm)
  all_goals first|exact Bi|exact Yy _ _ (hS _ (by simp)) (by show _<B;simp<;>omega)
 clear hK K;clear z0 z1 z2 z3;simp only[alloc_at,at_at];generalize ZaW W2 _=W4 at Vx hn4 ht4 hf4⊢;have zi:=fun d=>nh ⟨t,0,none⟩ ⟨W.heap.size+3,0,none⟩ n old (W4.at d) hn4 ht4 hf4;have zj:=fun d es=>ni ⟨t,0,none⟩ ⟨W.heap.size+3,0,none⟩ n old (W4.at d) es hn4 ht4 hf4;have z0:=ajL;have z1:=d165
 l_in
 refine zm rfl rfl (by decide) (fun K hK=>?_)
 go_simp
 refine hK _ _ ⟨fun e he=>?_,?_⟩
 ·have hm:=zy he
  simp[go_sem,Yf, *]at hm
  (repeat' (rcases hm with hm|hm))
  all_goals (try subst hm)
  all_goals first|exact Bi|exact Yy _ _ (hS _ (by simp)) (by show _<B;simp<;>omega)
 clear hK K;clear z0 z1;clear zi zj
 l_c Zf
 l_c Zn
 l_reg
 l_op
 l_c Zf
 l_c zO
 refine Goes.step rfl (fun w₁ BJ=>?_);obtain⟨dd,OZ⟩:=BJ;subst OZ;rw[stepG_leave (v:=.bool true) (fn:=Tryz.f149) rfl rfl Tryz.func149 (results_tmp Tryz.results149 _ _ _) (events_results_tmp Tryz.results149 _ _)];simp only[goes_go];refine⟨by u_nil,?_⟩;refine ZQ (fun w₁ BJ=>?_);obtain⟨d,hd⟩:=BJ;subst hd;exact⟨rfl,W4,_,Vx,rfl⟩
theorem yz {Shun:Loc→Prop}{B m:Nat}{W:Zb}{n:Int}{t:Nat}{f':ZA}{cs:List ZA}{v2 v3 v8 v9 v10 v11 O3 O4 O5 O6 O7 O8 O9 O_ v20 O' Pa Pb Pc Pd Pe Pf Pg Ph v30 Pj Pk Pl Pm Pn Po Pp:Zc}:
  Goes Zd true AtRel (DE (EvL Shun B)) (fun g w=>g=G (f'.finish (.bool true)) cs∧∃d,w=W.at d) 20
   (G ((nA m n t v2 v3 v8 v9 v10 v11 O3 O4 O5 O6 O7 O8 O9 O_ v20 O' Pa Pb Pc Pd Pe Pf Pg Ph v30 Pj Pk Pl Pm Pn Po Pp [4,5]).finish (.bool true)) (f'::cs)) W:=by
 simp only[hand,nA,EH,EG,Hg,Hf,He,IQ,IP,IM,FI,Fh,JX,Gc,Dj,YI,Zw];rw[Frame.finish_at]
 walk_nrm
 l_op
 l_c Zf
 l_c zO
 refine Goes.step rfl (fun w₁ BJ=>?_);obtain⟨dd,OZ⟩:=BJ;subst OZ;rw[stepG_leave (v:=.bool true) (fn:=YI) rfl rfl Tryz.func91 (results_tmp Tryz.results91 _ _ _) (events_results_tmp Tryz.results91 _ _)];simp only[goes_go];refine⟨by u_nil,?_⟩;refine ZQ (fun w₁ BJ=>?_);obtain⟨d,hd⟩:=BJ;subst hd;exact⟨rfl,d,rfl⟩
end Go.Proofs.Fit
namespace Go.Proofs.Fit
open Go Go.Conc Go.BK Go.RowKit
section
variable {Shun:Loc→Prop}{B:Nat}{W:Zb}{n:Int}{t:Nat}{old:Zc}{f':ZA}{cs:List ZA}{gs:Array Zg}{tr:YL}{q:Nat→Nat}{sl:Option (Nat×Nat)}
theorem cV {tv:Zc}(hX:Lone Zd Shun B (AO (Zq Zd 91 #[.nilIface,tv] .normal) (f'::cs)) gs tr q):
  ∃N gs' w' Iy t' q',runNT Zd N (Yg gs W sl) tr=(.next (Yg gs' w' Iy),t')∧Lone Zd Shun B (AO (f'.finish (.bool false)) cs) gs' t' q'∧∃d,w'=W.at d:=by
 obtain⟨N,gs',a',w',Iy,t',q',h1,⟨rfl,d,rfl⟩,h3⟩:=B6 (sl:=sl) (fun _ _ _ h=>h) hX (XY (Shun:=Shun) (B:=B) (W:=W));exact⟨N,gs',_,Iy,t',q',h1,h3,d,rfl⟩
theorem cW (hX:Lone Zd Shun B (AO (Zq Zd 91 #[.iface 121 (.agg #[.int .i64 n]),.iface 123 (.pointer (some ⟨t,0,none⟩))] .normal) (f'::cs)) gs tr q)
  (hS:∀p:Addr,p.block=0∨p.block=t∨W.heap.size≤p.block→¬Shun (.cell p)) (hB:W.heap.size+4≤B) (hg:W.cell? ⟨0,0,none⟩=some (.iface 220 (.agg #[hand 117]))) (ht0:W.cell? ⟨t,0,none⟩=some old) (CO:W.frozen? ⟨t,0,none⟩=false):
  ∃N gs' w' Iy t' q',runNT Zd N (Yg gs W sl) tr=(.next (Yg gs' w' Iy),t')∧Lone Zd Shun B (AO (f'.finish (.bool true)) cs) gs' t' q'∧∃W4 d,Va W W4 t 4∧w'=(W4.setCell ⟨t,0,none⟩ (.int .i64 n)).at d:=by
 obtain⟨N0,gs0,a0,w0,sl0,t0,q0,r0,h0,X0⟩:=B6 (sl:=sl) (fun _ _ _ h=>h) hX (ajM (Shun:=Shun) (B:=B) (W:=W) (n:=n) (t:=t) hS hB);obtain⟨_,_,_,_,_,_,_,_,_,_,_,_,_,_,_,_,_,_,_,_,_,_,_,_,_,_,_,_,_,_,_,_,_,_,_,_,_,_,V0,rfl,hV0,rfl⟩:=h0;obtain⟨N1,gs1,a1,w1,sl1,t1,q1,r1,h1,X1⟩:=B6 (sl:=sl0) (fun _ _ _ h=>h) X0 (ajN (Shun:=Shun) (B:=B) (W:=W) (n:=n) (t:=t) hS hB hV0);obtain⟨_,_,_,_,_,_,_,_,_,_,_,_,_,_,_,_,_,_,_,_,_,_,_,_,_,_,_,_,_,_,_,_,_,_,_,_,_,V1,rfl,hV1,rfl⟩:=h1;obtain⟨N2,gs2,a2,w2,sl2,t2,q2,r2,h2,X2⟩:=B6 (sl:=sl1) (fun _ _ _ h=>h) X1 (ajO (Shun:=Shun) (B:=B) (W:=W) (n:=n) (t:=t) hS hB hV1);obtain⟨_,_,_,_,_,_,_,_,_,_,_,_,_,_,_,_,_,_,_,_,_,_,_,_,_,_,_,_,_,_,_,_,_,_,_,_,_,V2,rfl,eO,rfl⟩:=h2;obtain⟨N3,gs3,a3,w3,sl3,t3,q3,r3,h3,X3⟩:=B6 (sl:=sl2) (fun _ _ _ h=>h) X2 (ajP (Shun:=Shun) (B:=B) (W:=W) (n:=n) (t:=t) hS hB eO);obtain⟨_,_,_,_,_,_,_,_,_,_,_,_,_,_,_,_,_,_,_,_,_,_,_,_,_,_,_,_,_,_,_,_,_,_,_,_,V3,rfl,hV3,rfl⟩:=h3;obtain⟨N4,gs4,a4,w4,sl4,t4,q4,r4,h4,X4⟩:=B6 (sl:=sl3) (fun _ _ _ h=>h) X3 (aeR (Shun:=Shun) (B:=B) (W:=W) (n:=n) (t:=t) hS hB hg hV3);obtain⟨_,_,_,_,_,_,_,_,_,_,_,_,_,_,_,_,_,_,_,_,_,_,_,_,_,_,_,_,_,_,_,_,_,_,_,_,V4,rfl,Vx,rfl⟩:=h4;obtain⟨N5,gs5,a5,w5,sl5,t5,q5,r5,h5,X5⟩:=B6 (sl:=sl4) (fun _ _ _ h=>h) X4 (aeT (Shun:=Shun) (B:=B) (W:=W) (n:=n) (t:=t) hS hB Vx);obtain⟨_,_,_,_,_,_,_,_,_,_,_,_,_,_,_,_,_,_,_,_,_,_,_,_,_,_,_,_,_,_,_,_,V5,rfl,hV5,rfl⟩:=h5;obtain⟨N6,gs6,a6,w6,sl6,t6,q6,r6,h6,X6⟩:=B6 (sl:=sl5) (fun _ _ _ h=>h) X5 (aeU (Shun:=Shun) (B:=B) (W:=W) (n:=n) (t:=t) hS hB hV5);obtain⟨_,_,_,_,_,_,_,_,_,_,_,_,_,_,_,_,_,_,_,_,_,_,_,_,_,_,_,_,_,_,_,_,_,_,_,_,_,_,_,_,_,_,_,_,_,_,_,_,_,_,_,_,_,_,_,_,V6,rfl,⟨hV6,bq⟩,rfl⟩:=h6;obtain⟨N7,gs7,a7,w7,sl7,t7,q7,r7,⟨rfl,W4,d,Et,rfl⟩,X7⟩:=B6 (sl:=sl6) (fun _ _ _ h=>h) X6 (yy (Shun:=Shun) (B:=B) (W:=W) (n:=n) (t:=t) hS hB ht0 CO hV6 bq);obtain⟨N8,gs8,a8,w8,sl8,t8,q8,r8,⟨rfl,d8,rfl⟩,X8⟩:=B6 (sl:=sl7) (fun _ _ _ h=>h) X7 (yz (Shun:=Shun) (B:=B));have Bs:∀ {N M:Nat} {x y z:Machine} {t D2 Hs:YL},runNT Zd N x t=(.next y,D2)→runNT Zd M y D2=(.next z,Hs)→runNT Zd (N+M) x t=(.next z,Hs):=fun h k=>by rw[Go.BK.runNT_add _ _ _ _ _ _ h];exact k
 exact⟨_,gs8,_,sl8,t8,q8,Bs r0 (Bs r1 (Bs r2 (Bs r3 (Bs r4 (Bs r5 (Bs r6 (Bs r7 r8))))))),X8,W4,d8,Et,rfl⟩
end
theorem aeY (t:Array Zc)(h:t.size=2):∃a0 a1,t= #[a0,a1]:=by
 obtain⟨l⟩:=t
 match l,h with
 | [a0,a1],_=>exact⟨a0,a1,rfl⟩
section
variable {B:Fj}{fn:Func}{Post:Zc→Zb→Prop}{ρ:Ren}{f f':ZA}{cs cs':List ZA}{w:Zb}
theorem aeZ (hl:B.lcs=[CV Lp])(JR:B.K.seg=false)(hb:C2 Post){P:Zp}(E:Env Lp P ρ)(hS:F6 Lp P B ρ (f::cs) (f'::cs'))(hw:∃w',WR ρ w w'){a:Array Zc}(ha:a.size=2)(hM:Cm Lp B true (Er Lp B fn Post PX) (AO (Zq Lp 91 a .normal) (f::cs)) w):
  ∃err XL,a= #[err,XL]∧uO w.heap.size w err XL:=by
 obtain⟨e,t,rfl⟩:=aeY a ha;have hc:=Oi e t (tp w fun _ _=>0) (by show((((zu 1 0 3).cut 0:Nat):Int)==1)=true;decide);obtain⟨w₂,y,Vq,kp,iy⟩:=RK hl JR hb E hS hw hM hc;rcases Vq with⟨gc,la,ln,lc,sv,b,rows,fit,y',e',h⟩|⟨err,XL,b,y',e',h⟩
 ·exfalso
  have:=congrArg Array.size (M7 e');simp at this
 ·have e4:=congrArg Array.toList (M7 e')
  obtain⟨e1,e5⟩:=zC e4;obtain⟨e2,e6⟩:=zC e5;have e8:=RL (zC e6).1;have e9:(tp w fun _ _=>0).heap.size=w.heap.size:=rfl;rw[e9]at e8;subst e1 e2 e8;obtain⟨h1,tt,n,h2,h3,h4,h5,h6⟩:=h;exact⟨_,_,rfl,h1,tt,n,h2,h3,iy _ _ _ _ h3 h4,h5,kp _ _ h5 h6⟩
theorem cY (hl:B.lcs=[CV Lp])(hb:C2 Post)(JI:B.lcs.length<(f::cs).length){XL:Zc}(hM:Cm Lp B true (Er Lp B fn Post PX) (AO (Zq Lp 91 #[.nilIface,XL] .normal) (f::cs)) w):
  ∃w₁,Zm w.heap.size w w₁∧Cw Lp B true (AO (Zq Lp 91 #[.nilIface,XL] .normal) (f::cs)) w (AO (f.finish (.bool false)) cs) w₁:=by
 have K:C8 Lp B true (Er Lp B fn Post PX):=Iw hl hb PX.blind;have G:=Kp (P':=Lp) (fn:=fn) (Post:=Post) (PostX:=PX) hl;have hc:=eZ XL (tp w fun _ _=>1) (by show((((zu 1 0 3).cut 1:Nat):Int)==1)=false;decide);have NT:Calls Lp 91 #[.nilIface,XL] (tp w fun _ _=>1) (eH (fun v w₁=>v=.bool false∧Zm w.heap.size (tp w fun _ _=>1) w₁) fun _ _=>False):=hc.mono fun e w' ⟨h1,h2⟩=>by rw[h1];exact⟨rfl,h2⟩
 obtain⟨v,w₁,⟨rfl,h1⟩,hp⟩:=Ej G Lp.func91 rfl JI (hM.Dg K.blind _) NT;exact⟨tp w₁ w.tape,⟨h1.os,rfl,h1.output,h1.size,h1.block⟩,(hp w.tape).Dg⟩
theorem cZ (hl:B.lcs=[CV Lp])(hb:C2 Post)(JI:B.lcs.length<(f::cs).length){n m:Int}{t:Nat}(ht:w.heap[t]?=some (.cells #[.int .i64 m] 121 (0,0)))
  (hM:Cm Lp B true (Er Lp B fn Post PX) (AO (Zq Lp 91 #[.iface 121 (.agg #[.int .i64 n]),.iface 123 (.pointer (some ⟨t,0,none⟩))] .normal) (f::cs)) w):
  ∃w₁,Zm w.heap.size (w.setCell ⟨t,0,none⟩ (.int .i64 n)) w₁∧Cw Lp B true (AO (Zq Lp 91 #[.iface 121 (.agg #[.int .i64 n]),.iface 123 (.pointer (some ⟨t,0,none⟩))] .normal) (f::cs)) w (AO (f.finish (.bool true)) cs) w₁:=by
 have K:C8 Lp B true (Er Lp B fn Post PX):=Iw hl hb PX.blind;have G:=Kp (P':=Lp) (fn:=fn) (Post:=Post) (PostX:=PX) hl;have hc:=fh n m t (tp w fun _ _=>1) (by show((((zu 1 0 3).cut 1:Nat):Int)==1)=false;decide) ht;have NT:Calls Lp 91 #[.iface 121 (.agg #[.int .i64 n]),.iface 123 (.pointer (some ⟨t,0,none⟩))] (tp w fun _ _=>1) (eH (fun v w₁=>v=.bool true∧Zm w.heap.size ((tp w fun _ _=>1).setCell ⟨t,0,none⟩ (.int .i64 n)) w₁) fun _ _=>False):=hc.mono fun e w' ⟨h1,h2⟩=>by rw[h1];exact⟨rfl,h2⟩
 obtain⟨v,w₁,⟨rfl,h1⟩,hp⟩:=Ej G Lp.func91 rfl JI (hM.Dg K.blind _) NT;exact⟨tp w₁ w.tape,⟨h1.os,rfl,h1.output,h1.size,h1.block⟩,(hp w.tape).Dg⟩
end
theorem RU:MZ.low=1:=by kernel_rfl
section
variable {B:Fj}{fn:Func}{Post:Zc→Zb→Prop}{J:Nat→Obj→Prop}{ρ₀ ρ:Ren}{n₀ n₀':Nat}{Lk S:Nat→Prop}{f f':ZA}{cs cs':List ZA}{a a':Array Zc}{w w':Zb}{gs:Array Zg}{sl:Option (Nat×Nat)}{t:YL}{q:Nat→Nat}{Shun:Loc→Prop}
theorem VR.RV {σ:Ren}{ty:Zs}{v x:Zc}(h:VR σ (.iface ty v) x):∃y,x=.iface ty y∧VR σ v y:=by
 cases h with
 |iface _ h=>exact⟨_,rfl,h⟩
theorem VR.nB {σ:Ren}{k:IntKind}{n:Int}{x:Zc}(h:VR σ (.int k n) x):x=.int k n:=by
 cases h with
 |int=>rfl
theorem VR.fL {σ:Ren}{v x:Zc}(h:VR σ (.agg #[v]) x):∃y,x=.agg #[y]∧VR σ v y:=by
 cases h with
 | @agg _ c h1 h2=>
  match c,h1 with
  |⟨[y]⟩,_=>exact⟨y,rfl,h2 0 _ _ rfl rfl⟩
theorem VR.nC {σ:Ren}{p:Addr}{x:Zc}(h:VR σ (.pointer (some p)) x):∃p',x=.pointer (some p')∧AR σ p p':=by
 cases h with
 | @pointer _ q h=>
  cases q with
  |none=>exact h.elim
  |some q=>exact⟨q,rfl,h⟩
theorem yA (hl:B.lcs=[CV Lp])(JR:B.K.seg=false)(nf:C2 Post)(ha:a.size=2)(uZ:BN ρ a a')(I4:ρ.ok=MZ)(hz:ρ 0=some 0)(hJ:∀b o,J b o→Quiet o)(hS:F6 Lp Zd B ρ (f::cs) (f'::cs'))(BI:f.todo≠ [])
  (hM:Cm Lp B true (Er Lp B fn Post PX) (AO (Zq Lp 91 a .normal) (f::cs)) w)
  (H:MN Lp Zd B J ρ₀ n₀ n₀' Lk S ρ (AO (Zq Lp 91 a .normal) (f::cs)) w (AO (Zq Zd 91 a' .normal) (f'::cs')) w') (X:Ctx Zd S (AO (Zq Zd 91 a' .normal) (f'::cs')) w' gs t q Shun):
  RO Lp Zd B J ρ₀ n₀ n₀' Lk S (AO (Zq Lp 91 a .normal) (f::cs)) w w' gs sl t:=by
 obtain⟨err,XL,rfl,akG,tt,m,rfl,bp,htb,h0,hg⟩:=aeZ hl JR nf H.env hS ⟨w',H.world⟩ ha hM;obtain⟨y0,y1,rfl⟩:=aeY a' (uZ.1.symm.trans rfl);have v0:VR ρ err y0:=uZ.2 0 _ _ rfl rfl;have v1:VR ρ (.iface 123 (.pointer (some ⟨tt,0,none⟩))) y1:=uZ.2 1 _ _ rfl rfl;have JI:B.lcs.length<(f::cs).length:=hS.deep;obtain⟨y,rfl,v2⟩:=VR.RV v1;obtain⟨⟨t',o',s'⟩,rfl,yB,ht2,ht3⟩:=VR.nC v2;dsimp only at yB ht2 ht3;subst ht2 ht3;rcases akG with rfl|⟨n,rfl⟩
 ·have e:y0=.nilIface:=by cases v0;rfl
  subst e;obtain⟨N,CI,w₁,CJ,D2,Gs,hr,hX,d,rfl⟩:=cV (sl:=sl) (W:=w') (B:=w'.heap.size) ⟨X.main,X.old,X.past⟩;obtain⟨wL,hB,hP⟩:=cY hl nf JI hM;exact Md (Shun₁:=Shun) H hS BI hr hP hB.block hB.os hB.size hX (fun b _=>rfl) (Zj _) ⟨rfl,rfl,rfl⟩ X.WU (Ren.le_refl ρ) (fun b c h=>.inl h) (fun b hb=>(X.held b hb).2) (.bool false)
 ·obtain⟨z,rfl,v3⟩:=VR.RV v0
  obtain⟨z,rfl,v4⟩:=VR.fL v3;obtain rfl:=VR.nB v4;have IE:ρ 1=some 1:=by have:=ρ.base;rw[I4,RU]at this;exact this
  have Az:∀b c,ρ b=some c→b<w.heap.size∧c<w'.heap.size:=fun b c h=>H.world.lt h;obtain⟨o,o',p1,p2,p3⟩:=H.world.obj tt t' yB;rw[htb]at p1;cases p1;have yC:∃fz,o'=.cells #[.int .i64 m] 121 fz∧fz.2≤fz.1:=by
   cases p3 with
   | @cells _ c' e f1 f2 hc hf=>
    refine⟨f2,?_,?_⟩
    ·match c',hc with
     |⟨[y]⟩,hc=>
      have:VR ρ (.int .i64 m) y:=hc.2 0 _ _ rfl rfl;rw[VR.nB this]
    ·rcases hf with rfl|hf|⟨h1,h2⟩
     ·exact Zj _
     ·exact hf
     ·dsimp only at h2;omega
  obtain⟨fz,rfl,wD⟩:=yC;have hcell:w'.cell? ⟨t',0,none⟩=some (.int .i64 m):=by unfold zJ;rw[p2];rfl
  have akH:w'.frozen? ⟨t',0,none⟩=false:=by unfold Yu;rw[p2];simp;omega
  have Gu:w'.cell? ⟨0,0,none⟩=some (.iface 220 (.agg #[hand 117])):=by
   obtain⟨x,x1,x2⟩:=WR.fE H.world hz hg;obtain⟨y,rfl,x3⟩:=VR.RV x2;obtain⟨y,rfl,x4⟩:=VR.fL x3;obtain⟨⟨b1,b2,b3⟩,rfl,x5,x6,x7⟩:=VR.nC x4;dsimp only at x5 x6 x7;rw[IE]at x5;cases x5;subst x6 x7;exact x1
  have af0:S t':=(H.holds t').2 ⟨tt,yB⟩;have h0S:S 0:=(H.holds 0).2 ⟨0,hz⟩;have akI:=(Az _ _ yB).2;have RM:∀p:Addr,w'.heap.size≤p.block→¬Shun (.cell p):=fun p hp hs=>by
   obtain⟨a,e,h⟩:=X.WU _ hs;cases e;omega
  obtain⟨N,CI,w₁,CJ,D2,Gs,hr,hX,W4,d,hV,rfl⟩:=cW (sl:=sl) (W:=w') (B:=w'.heap.size+4) (old:=.int .i64 m) ⟨X.main,X.old,X.past.mono (by omega)⟩ (fun p hp=>by
   rcases hp with hp|hp|hp
   ·exact(X.held 0 h0S).2 p hp
   ·exact(X.held t' af0).2 p hp
   ·exact RM p hp) (Zj _) Gu hcell akH
  obtain⟨wL,hB,hP⟩:=cZ hl nf JI htb hM;have D1:((W4.setCell ⟨t',0,none⟩ (.int .i64 n)).at d).heap.size=w'.heap.size+4:=by
   show(W4.setCell _ _).heap.size=_;rw[←hV.size];simp[Z1]
  have hsL:wL.heap.size≥w.heap.size:=by
   have:=hB.size;simpa[Z1]using this
  have OP:∀c,c<w'.heap.size→c≠t'→((W4.setCell ⟨t',0,none⟩ (.int .i64 n)).at d).heap[c]?=w'.heap[c]? :=fun c h1 h2=>by
   show(W4.setCell _ _).heap[c]?=_;rw[Y9 _ _ _ _ h2,hV.old c h1]
  have JH:∀b,b<w.heap.size→b≠tt→wL.heap[b]?=w.heap[b]? :=fun b h1 h2=>by
   rw[hB.block b h1,Y9 _ _ _ _ h2]
  have kQ:((W4.setCell ⟨t',0,none⟩ (.int .i64 n)).at d).heap[t']?=some (.cells #[.int .i64 n] 121 fz):=by
   show(W4.setCell _ _).heap[t']?=_;unfold Z1;simp only[Zag,if_pos];rw[hV.old t' akI,p2]
   rfl
  have akJ:wL.heap[tt]?=some (.cells #[.int .i64 n] 121 (0,0)):=by
   rw[hB.block tt bp];unfold Z1;simp only[Zag,if_pos];rw[htb]
   rfl
  have P3:∀b,Kg J w b→b≠tt:=by
   rintro b (⟨ty,k,h1,h2⟩|⟨o,h1,h2⟩) rfl
   ·unfold Ys at h1
    rw[htb]at h1;cases h1;have:=h2 0 (by simp);unfold Yu at this;rw[htb]at this;simp at this
   ·rw[htb]at h2
    cases h2;cases hJ _ _ h1
  refine⟨N,CI,CJ,D2,Gs,Shun,S,ρ,AO (f.finish (.bool true)) cs,wL,AO (f'.finish (.bool true)) cs',_,hr,hP,?_,?_,?_⟩
  ·refine⟨H.env,H.le,H.fresh,⟨Zx H.size.1 hsL,by rw[D1];exact Zx H.size.2 (by omega)⟩,.inl ⟨_,_,_,_,rfl,rfl,hS.top fun K h=>h.finish (.bool true) BI⟩,⟨fun b c JO=>?_,?_⟩,fun c hc=>?_,H.holds⟩
   ·by_cases hbt:b=tt
    ·subst hbt
     rw[yB]at JO;cases JO;exact⟨_,_,akJ,kQ,.cells 121 (Bt.single (.int _ _)) (.inr (.inl wD))⟩
    ·have hct:c≠t':=fun e=>hbt (ρ.inj _ _ _ JO (e▸yB))
     obtain⟨o,o',h1,h2,h3⟩:=H.world.obj b c JO;exact⟨o,o',(JH b (Az b c JO).1 hbt).trans h1,(OP c (Az b c JO).2 hct).trans h2,h3⟩
   ·rw[hB.os]
    exact hV.os.trans H.world.os
   ·obtain⟨b,h1,h2⟩:=H.lock c hc
    exact⟨b,h1,Kg.same h2 (JH b (Az b c h1).1 (P3 b h2))⟩
  ·exact⟨hX.main,hX.old,by rw[D1];exact hX.past,fun c hc=>⟨by rw[D1];have:=(X.held c hc).1;omega,(X.held c hc).2⟩,fun l hl=>by obtain⟨a,e,h⟩:=X.WU l hl;exact⟨a,e,by rw[D1];omega⟩⟩
  ·refine⟨by rw[D1];omega,fun b hb hx=>OP b hb fun e=>?_,hV.os,hV.tape,hV.output,fun c hc=>.inl hc⟩
   subst e;rcases hx with hx|hx
   ·exact hx af0
   ·obtain⟨b,h1,h2⟩:=H.lock _ hx
    exact P3 b h2 (ρ.inj _ _ _ h1 yB)
end
end Go.Proofs.Fit
