/- Part of a proof. -/
import Derived.Test.YtkkjobdfheidkaaGreatDoorQ06
import Derived.ProofKit
import Derived.WalkKit
import Derived.Lib.Hide
import Derived.Deep.AppendLies
set_option maxRecDepth 100000
set_option maxHeartbeats 6400000
open And renaming intro→zb
open Array renaming getElem?_eq_some_iff→Za,getElem?_modify→Zag,getElem?_setIfInBounds_ne→Zk,getElem?_setIfInBounds_self_of_lt→Z9,getElem?_eq_none→YG,replicate→Yd,getElem?_eq_getElem→ZB,getElem?_append_left→zg,getElem?_append_right→Y7
open Go renaming Program→Zp,TypeId→Zs,World→Zb,FuncId→YT,Value→Zc,callFunc→Zz,wpList_append_own→ZaV,info_parts→YC,rounds_succ→Yw,run_underlying→YS
open Go.Builtin renaming zeroCells→Zr,nextslicecap→Yk,append_→Zaa,firstCells→Zu
open Go.Lib renaming hid→Zh
open Go.Proofs.Tryz renaming prog→Zd,underlying27→Yn,f156→ZaY
open Go.Question renaming appendCap→zu
open Go.Result renaming andThen_ok→Zaj
open Go.RowKit renaming Below→Zm
open Go.RowKit.Below renaming refl→Zi,heap_setCell→Y9
open Go.Sem renaming run_bind→za
open Go.Value renaming oneCell'→ZaL
open Go.World renaming ownsRow_nil→Yz,block_lt_of_cell?→ZH,setCell→Z1,frozen?→Yu,cell?→zJ
open List renaming length_cons→zK,getElem?_cons_succ→ZO,length_append→ZV,getElem?_append_left→zD,nil_append→zE,eq_nil_of_length_eq_zero→Y8
open Nat renaming le_refl→Zj,lt_of_lt_of_le→Zl,le_trans→Zx,zero_le→Zt
open Option renaming getD_some→Zw
namespace Go.Proofs.Fit
open Go
noncomputable def Lp:Zp:=mD P_
theorem IJ:Lp.toTables=Tryz.prog.toTables:=rfl
@[simp] theorem mE (t:Zs):Lp.underlying t=Tryz.prog.underlying t:=by unfold Program.underlying;rw[IJ]
@[simp] theorem eU (t:Zs):Lp.info? t=Tryz.prog.info? t:=by rw[IJ]
@[simp] theorem adZ (t:Zs):Lp.cellsOf t=Tryz.prog.cellsOf t:=by unfold Program.cellsOf;rw[IJ]
@[simp] theorem ae0 (t:Zs):Lp.bytesOf t=Tryz.prog.bytesOf t:=by unfold Program.bytesOf;rw[IJ]
theorem mF:Lp.depth=Tryz.prog.depth:=by unfold Program.depth;rw[IJ]
theorem eW (Q:Zp)(t:Zs)(w:Zb):(underlying t).run Q w=match Q.underlying t with|some d=>.ok d w|none=>.halt (.stuck "no such type") w:=by
 show(match Q.underlying t with|some d=>pure d|none=>stuck "no such type" :Sem TypeDesc).run Q w=_;cases Q.underlying t<;>rfl
theorem Xv (Q:Zp)(t:Zs)(w:Zb):(typeInfo t).run Q w=match Q.info? t with|some d=>.ok d w|none=>.halt (.stuck "no such type") w:=by
 show(match Q.info? t with|some d=>pure d|none=>stuck "no such type" :Sem TypeInfo).run Q w=_;cases Q.info? t<;>rfl
@[simp] theorem Oc (t:Zs)(w:Zb):(underlying t).run Lp w=(underlying t).run Zd w:=by rw[eW,eW,mE]
@[simp] theorem Pr (t:Zs)(w:Zb):(typeInfo t).run Lp w=(typeInfo t).run Zd w:=by rw[Xv,Xv,eU]
@[simp] theorem abq (t:Zs)(w:Zb):(sizeOf t).run Lp w=(sizeOf t).run Zd w:=by
 have h:∀Q,(sizeOf t).run Q w=((typeInfo t).run Q w).andThen fun i w=>.ok i.size w:=fun Q=>by
  unfold sizeOf;rw[za];rfl
 rw[h,h,Pr]
@[simp] theorem ae1 (t:Zs)(w:Zb):(isAgg t).run Lp w=(isAgg t).run Zd w:=by
 have h:∀Q,(isAgg t).run Q w=((underlying t).run Q w).andThen fun d w=>.ok (match d with| .struct _| .array _ _=>true|_=>false) w:=fun Q=>by
  unfold isAgg;rw[za]
  congr 1
  funext d w
  cases d<;>rfl
 rw[h,h,Oc]
@[simp] theorem rm (t:Zs)(w:Zb):(zeroValue t).run Lp w=(zeroValue t).run Zd w:=by
 have h:∀Q,(zeroValue t).run Q w=((typeInfo t).run Q w).andThen fun i w=>match i.zero with|some v=>.ok v w|none=>.halt (.unsupported (.resourceLimit "a value of more than 2^22 cells")) w:=fun Q=>by
  unfold zeroValue;rw[za]
  congr 1
  funext i w
  cases i.zero<;>rfl
 rw[h,h,Pr]
theorem Ap (Q:Zp)(f:YT){fn:Func}(h:Q.funcs[f]?=some fn)(hn:(fn.name== "runtime.NumGoroutine")=false)(hb:fn.body.isSome=true)(args:Array Zc)(w:Zb):(Zz f args).run Q w=.ok (.enter f args) w:=by
 have GL:fn.body.isNone=false:=by cases hx:fn.body<;>simp_all
 show(match Q.funcs[f]? with
  |none=>stuck "call: no such function"
  |some fn=>if fn.name== "runtime.NumGoroutine" then pure .numGoroutine else if fn.body.isNone then _ else pure (.enter f args):Sem Next).run Q w=_
 rw[h];dsimp only;rw[hn,GL]
 rfl
@[simp] theorem Lp.func5:Lp.funcs[5]?=some Tryz.f5:=(AP.same 5 rfl rfl).trans Tryz.func5
@[simp] theorem Lp.func26:Lp.funcs[26]?=some Tryz.f26:=(AP.same 26 rfl rfl).trans Tryz.func26
@[simp] theorem Lp.call26 (args:Array Zc)(w:Zb):(Zz 26 args).run Lp w=.ok (.enter 26 args) w:=Ap Lp 26 Lp.func26 rfl rfl args w
@[simp] theorem Lp.func27:Lp.funcs[27]?=some Tryz.f27:=(AP.same 27 rfl rfl).trans Tryz.func27
@[simp] theorem Lp.call27 (args:Array Zc)(w:Zb):(Zz 27 args).run Lp w=.ok (.enter 27 args) w:=Ap Lp 27 Lp.func27 rfl rfl args w
@[simp] theorem Lp.func29:Lp.funcs[29]?=some Tryz.f29:=(AP.same 29 rfl rfl).trans Tryz.func29
@[simp] theorem Lp.call29 (args:Array Zc)(w:Zb):(Zz 29 args).run Lp w=.ok (.enter 29 args) w:=Ap Lp 29 Lp.func29 rfl rfl args w
@[simp] theorem Lp.func30:Lp.funcs[30]?=some Tryz.f30:=(AP.same 30 rfl rfl).trans Tryz.func30
@[simp] theorem Lp.call30 (args:Array Zc)(w:Zb):(Zz 30 args).run Lp w=.ok (.enter 30 args) w:=Ap Lp 30 Lp.func30 rfl rfl args w
@[simp] theorem Lp.func32:Lp.funcs[32]?=some Tryz.f32:=(AP.same 32 rfl rfl).trans Tryz.func32
@[simp] theorem Lp.call32 (args:Array Zc)(w:Zb):(Zz 32 args).run Lp w=.ok (.enter 32 args) w:=Ap Lp 32 Lp.func32 rfl rfl args w
@[simp] theorem Lp.func33:Lp.funcs[33]?=some Tryz.f33:=(AP.same 33 rfl rfl).trans Tryz.func33
@[simp] theorem Lp.call33 (args:Array Zc)(w:Zb):(Zz 33 args).run Lp w=.ok (.enter 33 args) w:=Ap Lp 33 Lp.func33 rfl rfl args w
@[simp] theorem Lp.func34:Lp.funcs[34]?=some Tryz.f34:=(AP.same 34 rfl rfl).trans Tryz.func34
@[simp] theorem Lp.call34 (args:Array Zc)(w:Zb):(Zz 34 args).run Lp w=.ok (.enter 34 args) w:=Ap Lp 34 Lp.func34 rfl rfl args w
@[simp] theorem Lp.func37:Lp.funcs[37]?=some Tryz.f37:=(AP.same 37 rfl rfl).trans Tryz.func37
@[simp] theorem Lp.call37 (args:Array Zc)(w:Zb):(Zz 37 args).run Lp w=.ok (.enter 37 args) w:=Ap Lp 37 Lp.func37 rfl rfl args w
@[simp] theorem Lp.func40:Lp.funcs[40]?=some Tryz.f40:=(AP.same 40 rfl rfl).trans Tryz.func40
@[simp] theorem Lp.call40 (args:Array Zc)(w:Zb):(Zz 40 args).run Lp w=.ok (.enter 40 args) w:=Ap Lp 40 Lp.func40 rfl rfl args w
@[simp] theorem Lp.func41:Lp.funcs[41]?=some Tryz.f41:=(AP.same 41 rfl rfl).trans Tryz.func41
@[simp] theorem Lp.call41 (args:Array Zc)(w:Zb):(Zz 41 args).run Lp w=.ok (.enter 41 args) w:=Ap Lp 41 Lp.func41 rfl rfl args w
@[simp] theorem Lp.func44:Lp.funcs[44]?=some Tryz.f44:=(AP.same 44 rfl rfl).trans Tryz.func44
@[simp] theorem Lp.call44 (args:Array Zc)(w:Zb):(Zz 44 args).run Lp w=.ok (.enter 44 args) w:=Ap Lp 44 Lp.func44 rfl rfl args w
@[simp] theorem Lp.func45:Lp.funcs[45]?=some Tryz.f45:=(AP.same 45 rfl rfl).trans Tryz.func45
@[simp] theorem Lp.call45 (args:Array Zc)(w:Zb):(Zz 45 args).run Lp w=.ok (.enter 45 args) w:=Ap Lp 45 Lp.func45 rfl rfl args w
@[simp] theorem Lp.func46:Lp.funcs[46]?=some Tryz.f46:=(AP.same 46 rfl rfl).trans Tryz.func46
@[simp] theorem Lp.call46 (args:Array Zc)(w:Zb):(Zz 46 args).run Lp w=.ok (.enter 46 args) w:=Ap Lp 46 Lp.func46 rfl rfl args w
@[simp] theorem Lp.func47:Lp.funcs[47]?=some Tryz.f47:=(AP.same 47 rfl rfl).trans Tryz.func47
@[simp] theorem Lp.call47 (args:Array Zc)(w:Zb):(Zz 47 args).run Lp w=.ok (.enter 47 args) w:=Ap Lp 47 Lp.func47 rfl rfl args w
@[simp] theorem Lp.func54:Lp.funcs[54]?=some Tryz.f54:=(AP.same 54 rfl rfl).trans Tryz.func54
@[simp] theorem Lp.call54 (args:Array Zc)(w:Zb):(Zz 54 args).run Lp w=.ok (.enter 54 args) w:=Ap Lp 54 Lp.func54 rfl rfl args w
@[simp] theorem Lp.func61:Lp.funcs[61]?=some Tryz.f61:=(AP.same 61 rfl rfl).trans Tryz.func61
@[simp] theorem Lp.call61 (args:Array Zc)(w:Zb):(Zz 61 args).run Lp w=.ok (.enter 61 args) w:=Ap Lp 61 Lp.func61 rfl rfl args w
@[simp] theorem Lp.func62:Lp.funcs[62]?=some Tryz.f62:=(AP.same 62 rfl rfl).trans Tryz.func62
@[simp] theorem Lp.call62 (args:Array Zc)(w:Zb):(Zz 62 args).run Lp w=.ok (.enter 62 args) w:=Ap Lp 62 Lp.func62 rfl rfl args w
@[simp] theorem Lp.func69:Lp.funcs[69]?=some Tryz.f69:=(AP.same 69 rfl rfl).trans Tryz.func69
@[simp] theorem Lp.call69 (args:Array Zc)(w:Zb):(Zz 69 args).run Lp w=.ok (.enter 69 args) w:=Ap Lp 69 Lp.func69 rfl rfl args w
@[simp] theorem Lp.func84:Lp.funcs[84]?=some Tryz.f84:=(AP.same 84 rfl rfl).trans Tryz.func84
@[simp] theorem Lp.call84 (args:Array Zc)(w:Zb):(Zz 84 args).run Lp w=.ok (.enter 84 args) w:=Ap Lp 84 Lp.func84 rfl rfl args w
@[simp] theorem Lp.func85:Lp.funcs[85]?=some Tryz.f85:=(AP.same 85 rfl rfl).trans Tryz.func85
@[simp] theorem Lp.call85 (args:Array Zc)(w:Zb):(Zz 85 args).run Lp w=.ok (.enter 85 args) w:=Ap Lp 85 Lp.func85 rfl rfl args w
@[simp] theorem Lp.func86:Lp.funcs[86]?=some Tryz.f86:=(AP.same 86 rfl rfl).trans Tryz.func86
@[simp] theorem Lp.call86 (args:Array Zc)(w:Zb):(Zz 86 args).run Lp w=.ok (.enter 86 args) w:=Ap Lp 86 Lp.func86 rfl rfl args w
@[simp] theorem Lp.func87:Lp.funcs[87]?=some Tryz.f87:=(AP.same 87 rfl rfl).trans Tryz.func87
@[simp] theorem Lp.call87 (args:Array Zc)(w:Zb):(Zz 87 args).run Lp w=.ok (.enter 87 args) w:=Ap Lp 87 Lp.func87 rfl rfl args w
@[simp] theorem Lp.func88:Lp.funcs[88]?=some Tryz.f88:=(AP.same 88 rfl rfl).trans Tryz.func88
@[simp] theorem Lp.call88 (args:Array Zc)(w:Zb):(Zz 88 args).run Lp w=.ok (.enter 88 args) w:=Ap Lp 88 Lp.func88 rfl rfl args w
@[simp] theorem Lp.func89:Lp.funcs[89]?=some Tryz.f89:=(AP.same 89 rfl rfl).trans Tryz.func89
@[simp] theorem Lp.call89 (args:Array Zc)(w:Zb):(Zz 89 args).run Lp w=.ok (.enter 89 args) w:=Ap Lp 89 Lp.func89 rfl rfl args w
@[simp] theorem Lp.func90:Lp.funcs[90]?=some Tryz.f90:=(AP.same 90 rfl rfl).trans Tryz.func90
@[simp] theorem Lp.call90 (args:Array Zc)(w:Zb):(Zz 90 args).run Lp w=.ok (.enter 90 args) w:=Ap Lp 90 Lp.func90 rfl rfl args w
@[simp] theorem Lp.func92:Lp.funcs[92]?=some Tryz.f92:=(AP.same 92 rfl rfl).trans Tryz.func92
@[simp] theorem Lp.call92 (args:Array Zc)(w:Zb):(Zz 92 args).run Lp w=.ok (.enter 92 args) w:=Ap Lp 92 Lp.func92 rfl rfl args w
@[simp] theorem Lp.func98:Lp.funcs[98]?=some Tryz.f98:=(AP.same 98 rfl rfl).trans Tryz.func98
@[simp] theorem Lp.call98 (args:Array Zc)(w:Zb):(Zz 98 args).run Lp w=.ok (.enter 98 args) w:=Ap Lp 98 Lp.func98 rfl rfl args w
@[simp] theorem Lp.func99:Lp.funcs[99]?=some Tryz.f99:=(AP.same 99 rfl rfl).trans Tryz.func99
@[simp] theorem Lp.call99 (args:Array Zc)(w:Zb):(Zz 99 args).run Lp w=.ok (.enter 99 args) w:=Ap Lp 99 Lp.func99 rfl rfl args w
@[simp] theorem Lp.func100:Lp.funcs[100]?=some Tryz.f100:=(AP.same 100 rfl rfl).trans Tryz.func100
@[simp] theorem Lp.call100 (args:Array Zc)(w:Zb):(Zz 100 args).run Lp w=.ok (.enter 100 args) w:=Ap Lp 100 Lp.func100 rfl rfl args w
@[simp] theorem Lp.func101:Lp.funcs[101]?=some Tryz.f101:=(AP.same 101 rfl rfl).trans Tryz.func101
@[simp] theorem Lp.call101 (args:Array Zc)(w:Zb):(Zz 101 args).run Lp w=.ok (.enter 101 args) w:=Ap Lp 101 Lp.func101 rfl rfl args w
@[simp] theorem Lp.func102:Lp.funcs[102]?=some Tryz.f102:=(AP.same 102 rfl rfl).trans Tryz.func102
@[simp] theorem Lp.call102 (args:Array Zc)(w:Zb):(Zz 102 args).run Lp w=.ok (.enter 102 args) w:=Ap Lp 102 Lp.func102 rfl rfl args w
@[simp] theorem Lp.func103:Lp.funcs[103]?=some Tryz.f103:=(AP.same 103 rfl rfl).trans Tryz.func103
@[simp] theorem Lp.call103 (args:Array Zc)(w:Zb):(Zz 103 args).run Lp w=.ok (.enter 103 args) w:=Ap Lp 103 Lp.func103 rfl rfl args w
@[simp] theorem Lp.func105:Lp.funcs[105]?=some Tryz.f105:=(AP.same 105 rfl rfl).trans Tryz.func105
@[simp] theorem Lp.call105 (args:Array Zc)(w:Zb):(Zz 105 args).run Lp w=.ok (.enter 105 args) w:=Ap Lp 105 Lp.func105 rfl rfl args w
@[simp] theorem Lp.func106:Lp.funcs[106]?=some Tryz.f106:=(AP.same 106 rfl rfl).trans Tryz.func106
@[simp] theorem Lp.call106 (args:Array Zc)(w:Zb):(Zz 106 args).run Lp w=.ok (.enter 106 args) w:=Ap Lp 106 Lp.func106 rfl rfl args w
@[simp] theorem Lp.func110:Lp.funcs[110]?=some Tryz.f110:=(AP.same 110 rfl rfl).trans Tryz.func110
@[simp] theorem Lp.call110 (args:Array Zc)(w:Zb):(Zz 110 args).run Lp w=.ok (.enter 110 args) w:=Ap Lp 110 Lp.func110 rfl rfl args w
@[simp] theorem Lp.func111:Lp.funcs[111]?=some Tryz.f111:=(AP.same 111 rfl rfl).trans Tryz.func111
@[simp] theorem Lp.call111 (args:Array Zc)(w:Zb):(Zz 111 args).run Lp w=.ok (.enter 111 args) w:=Ap Lp 111 Lp.func111 rfl rfl args w
@[simp] theorem Lp.func112:Lp.funcs[112]?=some Tryz.f112:=(AP.same 112 rfl rfl).trans Tryz.func112
@[simp] theorem Lp.call112 (args:Array Zc)(w:Zb):(Zz 112 args).run Lp w=.ok (.enter 112 args) w:=Ap Lp 112 Lp.func112 rfl rfl args w
@[simp] theorem Lp.func113:Lp.funcs[113]?=some Tryz.f113:=(AP.same 113 rfl rfl).trans Tryz.func113
@[simp] theorem Lp.call113 (args:Array Zc)(w:Zb):(Zz 113 args).run Lp w=.ok (.enter 113 args) w:=Ap Lp 113 Lp.func113 rfl rfl args w
@[simp] theorem Lp.func119:Lp.funcs[119]?=some Tryz.f119:=(AP.same 119 rfl rfl).trans Tryz.func119
@[simp] theorem Lp.call119 (args:Array Zc)(w:Zb):(Zz 119 args).run Lp w=.ok (.enter 119 args) w:=Ap Lp 119 Lp.func119 rfl rfl args w
@[simp] theorem Lp.func120:Lp.funcs[120]?=some Tryz.f120:=(AP.same 120 rfl rfl).trans Tryz.func120
@[simp] theorem Lp.call120 (args:Array Zc)(w:Zb):(Zz 120 args).run Lp w=.ok (.enter 120 args) w:=Ap Lp 120 Lp.func120 rfl rfl args w
@[simp] theorem Lp.func122:Lp.funcs[122]?=some Tryz.f122:=(AP.same 122 rfl rfl).trans Tryz.func122
@[simp] theorem Lp.call122 (args:Array Zc)(w:Zb):(Zz 122 args).run Lp w=.ok (.enter 122 args) w:=Ap Lp 122 Lp.func122 rfl rfl args w
@[simp] theorem Lp.func123:Lp.funcs[123]?=some Tryz.f123:=(AP.same 123 rfl rfl).trans Tryz.func123
@[simp] theorem Lp.call123 (args:Array Zc)(w:Zb):(Zz 123 args).run Lp w=.ok (.enter 123 args) w:=Ap Lp 123 Lp.func123 rfl rfl args w
@[simp] theorem Lp.func126:Lp.funcs[126]?=some Tryz.f126:=(AP.same 126 rfl rfl).trans Tryz.func126
@[simp] theorem Lp.call126 (args:Array Zc)(w:Zb):(Zz 126 args).run Lp w=.ok (.enter 126 args) w:=Ap Lp 126 Lp.func126 rfl rfl args w
@[simp] theorem Lp.func134:Lp.funcs[134]?=some Tryz.f134:=(AP.same 134 rfl rfl).trans Tryz.func134
@[simp] theorem Lp.call134 (args:Array Zc)(w:Zb):(Zz 134 args).run Lp w=.ok (.enter 134 args) w:=Ap Lp 134 Lp.func134 rfl rfl args w
@[simp] theorem Lp.func136:Lp.funcs[136]?=some Tryz.f136:=(AP.same 136 rfl rfl).trans Tryz.func136
@[simp] theorem Lp.call136 (args:Array Zc)(w:Zb):(Zz 136 args).run Lp w=.ok (.enter 136 args) w:=Ap Lp 136 Lp.func136 rfl rfl args w
@[simp] theorem Lp.func139:Lp.funcs[139]?=some Tryz.f139:=(AP.same 139 rfl rfl).trans Tryz.func139
@[simp] theorem Lp.call139 (args:Array Zc)(w:Zb):(Zz 139 args).run Lp w=.ok (.enter 139 args) w:=Ap Lp 139 Lp.func139 rfl rfl args w
@[simp] theorem Lp.func143:Lp.funcs[143]?=some Tryz.f143:=(AP.same 143 rfl rfl).trans Tryz.func143
@[simp] theorem Lp.call143 (args:Array Zc)(w:Zb):(Zz 143 args).run Lp w=.ok (.enter 143 args) w:=Ap Lp 143 Lp.func143 rfl rfl args w
@[simp] theorem Lp.func144:Lp.funcs[144]?=some Tryz.f144:=(AP.same 144 rfl rfl).trans Tryz.func144
@[simp] theorem Lp.call144 (args:Array Zc)(w:Zb):(Zz 144 args).run Lp w=.ok (.enter 144 args) w:=Ap Lp 144 Lp.func144 rfl rfl args w
@[simp] theorem Lp.func145:Lp.funcs[145]?=some Tryz.f145:=(AP.same 145 rfl rfl).trans Tryz.func145
@[simp] theorem Lp.call145 (args:Array Zc)(w:Zb):(Zz 145 args).run Lp w=.ok (.enter 145 args) w:=Ap Lp 145 Lp.func145 rfl rfl args w
@[simp] theorem Lp.func150:Lp.funcs[150]?=some Tryz.f150:=(AP.same 150 rfl rfl).trans Tryz.func150
@[simp] theorem Lp.call150 (args:Array Zc)(w:Zb):(Zz 150 args).run Lp w=.ok (.enter 150 args) w:=Ap Lp 150 Lp.func150 rfl rfl args w
@[simp] theorem Lp.func151:Lp.funcs[151]?=some Tryz.f151:=(AP.same 151 rfl rfl).trans Tryz.func151
@[simp] theorem Lp.call151 (args:Array Zc)(w:Zb):(Zz 151 args).run Lp w=.ok (.enter 151 args) w:=Ap Lp 151 Lp.func151 rfl rfl args w
@[simp] theorem Lp.func152:Lp.funcs[152]?=some Tryz.f152:=(AP.same 152 rfl rfl).trans Tryz.func152
@[simp] theorem Lp.call152 (args:Array Zc)(w:Zb):(Zz 152 args).run Lp w=.ok (.enter 152 args) w:=Ap Lp 152 Lp.func152 rfl rfl args w
@[simp] theorem Lp.func153:Lp.funcs[153]?=some Tryz.f153:=(AP.same 153 rfl rfl).trans Tryz.func153
@[simp] theorem Lp.func154:Lp.funcs[154]?=some Tryz.f154:=(AP.same 154 rfl rfl).trans Tryz.func154
@[simp] theorem Lp.call154 (args:Array Zc)(w:Zb):(Zz 154 args).run Lp w=.ok (.enter 154 args) w:=Ap Lp 154 Lp.func154 rfl rfl args w
@[simp] theorem Lp.func159:Lp.funcs[159]?=some Tryz.f159:=(AP.same 159 rfl rfl).trans Tryz.func159
@[simp] theorem Lp.func161:Lp.funcs[161]?=some Tryz.f161:=(AP.same 161 rfl rfl).trans Tryz.func161
@[simp] theorem Lp.call161 (args:Array Zc)(w:Zb):(Zz 161 args).run Lp w=.ok (.enter 161 args) w:=Ap Lp 161 Lp.func161 rfl rfl args w
@[simp] theorem Lp.func162:Lp.funcs[162]?=some Tryz.f162:=(AP.same 162 rfl rfl).trans Tryz.func162
@[simp] theorem Lp.call162 (args:Array Zc)(w:Zb):(Zz 162 args).run Lp w=.ok (.enter 162 args) w:=Ap Lp 162 Lp.func162 rfl rfl args w
@[simp] theorem Lp.func166:Lp.funcs[166]?=some Tryz.f166:=(AP.same 166 rfl rfl).trans Tryz.func166
@[simp] theorem Lp.call166 (args:Array Zc)(w:Zb):(Zz 166 args).run Lp w=.ok (.enter 166 args) w:=Ap Lp 166 Lp.func166 rfl rfl args w
@[simp] theorem Lp.func167:Lp.funcs[167]?=some Tryz.f167:=(AP.same 167 rfl rfl).trans Tryz.func167
@[simp] theorem Lp.call167 (args:Array Zc)(w:Zb):(Zz 167 args).run Lp w=.ok (.enter 167 args) w:=Ap Lp 167 Lp.func167 rfl rfl args w
@[simp] theorem Lp.func168:Lp.funcs[168]?=some Tryz.f168:=(AP.same 168 rfl rfl).trans Tryz.func168
@[simp] theorem Lp.call168 (args:Array Zc)(w:Zb):(Zz 168 args).run Lp w=.ok (.enter 168 args) w:=Ap Lp 168 Lp.func168 rfl rfl args w
@[simp] theorem Lp.func187:Lp.funcs[187]?=some Tryz.f187:=(AP.same 187 rfl rfl).trans Tryz.func187
@[simp] theorem Lp.call187 (args:Array Zc)(w:Zb):(Zz 187 args).run Lp w=.ok (.enter 187 args) w:=Ap Lp 187 Lp.func187 rfl rfl args w
@[simp] theorem Lp.func91:Lp.funcs[91]?=some P_:=M1 (by rw[FF];decide)
@[simp] theorem Lp.call91 (args:Array Zc)(w:Zb):(Zz 91 args).run Lp w=.ok (.enter 91 args) w:=Ap Lp 91 Lp.func91 (by decide) rfl args w
@[simp] theorem Lp.func104:Lp.funcs[104]?=some JV:=Lr (by rw[FF];decide)
@[simp] theorem Lp.call104 (args:Array Zc)(w:Zb):(Zz 104 args).run Lp w=.ok (.enter 104 args) w:=Ap Lp 104 Lp.func104 (by decide) rfl args w
@[simp] theorem Lp.func155:Lp.funcs[155]?=some L0:=S5 (by rw[FF];decide)
@[simp] theorem Lp.call155 (args:Array Zc)(w:Zb):(Zz 155 args).run Lp w=.ok (.enter 155 args) w:=Ap Lp 155 Lp.func155 (by decide) rfl args w
@[simp] theorem Lp.func156:Lp.funcs[156]?=some LZ:=Ls (by rw[FF];decide)
theorem CM {t:Zs}{d:TypeDesc}(h:Tryz.prog.underlying t=some d):Lp.underlying t=some d:=(mE t).trans h
theorem D3 {t:Zs}{i:TypeInfo}(h:Tryz.prog.info? t=some i):Lp.info? t=some i:=(eU t).trans h
end Go.Proofs.Fit
namespace Go.Proofs.Fit
open Go Go.RowKit
theorem Lu:(Tryz.prog.info? 3).map (fun i=>(i.zero,i.size,i.bytes))=some (some (.int .i64 0),1,8):=by kernel_rfl
theorem Jf:(Tryz.prog.info? 22).map (fun i=>(i.zero,i.size,i.bytes))=some (some (.slice none 0 0),1,24):=by kernel_rfl
theorem L5:JV.ntmps=14:=rfl
theorem Od:P_.ntmps=14:=rfl
theorem cB:L0.ntmps=13:=rfl
theorem L6:LZ.ntmps=40:=rfl
def Vh (cap:Array Zc):Zc:=.iface 1 (.func (.func 156) #[] cap)
def L8 (b:Nat):Zc:=.slice (some ⟨b,0,none⟩) 1 1
section
variable {P:Zp}
theorem M3 {w:Zb}{ops:Array Oper}{rest:List Oper}{o:Oper}{a:Act}{Q:Exit→Act→Zb→Prop}(xz:o.guard=none)(s x:Operand)(t:Zs)
  (ho:o.op=.call {callee:=.builtin .append,args:= #[s,x],argTypes:= #[t,t]})
  (e:Zs) (i:TypeInfo) (z:Zc) (ht:P.underlying t=some (.slice e)) (hi:P.info? e=some i) (hz:i.zero=some z)
  (hs:a.eval s=.slice none 0 0) (ad:Addr) (n c:Nat) (news:List Zc) (hx:a.eval x=.slice (some ad) n c) (hl:news.length=n*i.size) (M4:∀j v,news[j]?=some v→w.cell? (ad.add j)=some v)
  (h0:0<n) (h63:(n:Int)≤9223372036854775807) (h48:n*i.bytes≤281474976710656)
  (h:wpList P ops Q rest (a.put o.dst (.slice (some ⟨w.heap.size,0,none⟩) n (grownCap w n 0 e))) (w.drew.alloc (.cells (news.toArray++Zr z.cells (grownCap w n 0 e - n)) e))):wpList P ops Q (o::rest) a w:=by
 refine wpList_plain xz fun _ hK=>?_;have Bs:=run_append_nil (P:=P) w t o.type e i z ht hi hz ad n c news hl M4 h0 h63 h48;unfold Oper.wp execOp;simp only[ho,resolve,invoke,builtin,za,Sem.run_pure,Zaj,List.map_toArray,List.map_cons,List.map_nil,hs,hx,Bs];exact hK _ _ h
end
@[simp] theorem run_panic_iface (Q:Zp)(t:Zs)(v:Zc)(w:Zb):(Instr.panic (.iface t v)).run Q w=.halt (.panic (.iface t v)) w:=rfl
theorem t3b:¬281474976710656<Yk 1 0*Tryz.t3.bytes:=by decide+kernel
theorem RB (g l s:Zc)(w:Zb)(h1:(((zu 1 0 3).cut (w.tape w.drawn (.appendCap 1 0 3)):Int)==1)=true):
  Calls Lp 104 #[g,l,s] w fun e w'=>e=.panicked [{v:=Vh #[g,l,s,L8 w.heap.size],recovered:=false}]∧Zm w.heap.size w w':=by
 have hb:=t3b;go_enter Lp.func104,L5;go_wp2;refine⟨rfl,rfl,?_⟩;exact(((Zi _ _).alloc (Zj _) _).alloc (by simp) _).drew
theorem GX {w w':Zb}{base:Nat}{e:Zs}{size:Nat}{v:Zc}{n:Nat}{xs:List Zc}(h:w.ownsRow base e size v n xs)(hb:Zm w.heap.size w w'):w'.ownsRow base e size v n xs:=
 h.kept (row:=none) ⟨hb.os,hb.tape,hb.output,hb.size,fun k hk _=>hb.block k hk⟩ (by cases hv:v.ownBlock<;>simp)
theorem Xw {base:Nat}{w w':Zb}{row:Option Nat}(hg:w.grownBy w' row)(hb:base≤w.heap.size)(hr:∀k,row=some k→base≤k):Zm base w w':=
 ⟨hg.os,hg.tape,hg.output,hg.size,fun k hk=>hg.block k (by omega) fun e=>by have:=hr k e.symm;omega⟩
theorem mG (w:Zb)(news:List Zc)(e:Zs):∀j u,news[j]?=some u→(w.alloc (.cells news.toArray e)).cell? ((⟨w.heap.size,0,none⟩:Addr).add j)=some u:=by
 intro j u hu;have aj8:(⟨w.heap.size,0,none⟩:Addr).add j=⟨w.heap.size,j,none⟩:=by unfold Addr.add;split<;>simp_all
 rw[aj8,World.cell?_alloc_at _ _ _ _ rfl];simpa using hu
section
variable {P:Zp}
theorem Gv {W:Zb}{ops:Array Oper}{rest:List Oper}{o:Oper}{a:Act}{Q:Exit→Act→Zb→Prop}(xz:o.guard=none)(s x:Operand)(t:Zs)
  (ho:o.op=.call {callee:=.builtin .append,args:= #[s,x],argTypes:= #[t,t]})
  (base:Nat) (e:Zs) (i:TypeInfo) (z:Zc) (size bytes:Nat) (ht:P.underlying t=some (.slice e)) (hi:P.info? e=some i) (hz:i.zero=some z)
  (ae3:i.size=size) (xA:i.bytes=bytes) (hzs:z.cells.size=size) (D1:0<size)
  (v:Zc) (n:Nat) (xs:List Zc) (hs:a.eval s=v) (AY:W.ownsRow base e size v n xs)
  (ad:Addr) (news:List Zc) (cap:Nat) (had:ad=⟨W.heap.size,0,none⟩) (hx:a.eval x=.slice (some ad) 1 cap)
  (h:∀v' w',w'.ownsRow base e size v' (n+1) (xs++news)→Zm base W w'→wpList P ops Q rest (a.put o.dst v') w')
  (hl:news.length=size) (h1:∀u∈news,u.oneCell'=true) (h63:n+1≤maxLen) (xB:(n+1)*bytes≤140737488355328) (eX:base≤W.heap.size):wpList P ops Q (o::rest) a (W.alloc (.cells news.toArray e)):=by
 subst had;refine ZaV (w:=W.alloc (.cells news.toArray e)) xz s x t ho base e i z size bytes ht hi hz ae3 xA hzs D1 v n xs hs (AY.alloc _) _ 1 cap news hx (by omega) (mG W news e) h1 h63 xB (by simp;omega) fun v' w' h2 h3 _=>h v' w' h2 ?_;exact((Zi base W).alloc eX _).trans (Xw h3 (by simp;omega) fun k hk=>(AY.lt k hk).1)
end
theorem Ct (a:Addr)(n:Nat):(a.add n).block=a.block:=by unfold Addr.add;split<;>rfl
def EE (b:Nat)(w w₁:Zb):Prop:=∀p v,p.block<b→w.cell? p=some v→w₁.cell? p=some v
theorem EE.trans {b:Nat}{x y z:Zb}(h:EE b x y)(k:EE b y z):EE b x z:=fun p v hp hc=>k p v hp (h p v hp hc)
theorem EE.below {b:Nat}{w w₁:Zb}(h:Zm w.heap.size w w₁)(hb:b≤w.heap.size):EE b w w₁:=fun p v hp hc=>by
 rw[h.cell (Zl hp hb)];exact hc
structure L9 (b:Nat)(w:Zb)(gc:Array Zc)(la:Option Addr)(ln lc:Nat)(sv:Zc)(rows:Nat→Zc)(fit:Nat→Bool):Prop where
 small:ln≤1000000
 cap:ln≤lc∧lc≤maxLen
 eY:gc.size=8
 there:∀i,i<ln→∃ad,la=some ad∧ad.block<b∧w.cell? (ad.add i)=some (rows i)
 row:∀i,i<ln→∃a n c,rows i=.slice a n c
 mH:∃a n c,sv=.slice a n c
 fits:∀i,i<ln→∀w₁,EE b w w₁→Calls Lp 126 #[.agg gc,rows i,sv] w₁ fun e w₂=>e=.returned (.bool (fit i))∧Zm w₁.heap.size w₁ w₂
theorem L9.Au {b:Nat}{w w₁:Zb}{gc:Array Zc}{la:Option Addr}{ln lc:Nat}{sv:Zc}{rows:Nat→Zc}{fit:Nat→Bool}(h:L9 b w gc la ln lc sv rows fit)(k:EE b w w₁):L9 b w₁ gc la ln lc sv rows fit:=
 ⟨h.small,h.cap,h.eY,fun i hi=>by
  obtain⟨ad,h1,h2,h3⟩:=h.there i hi;exact⟨ad,h1,h2,k _ _ (by rw[Ct];exact h2) h3⟩,h.row,h.mH,fun i hi w₂ hw=>h.fits i hi w₂ (k.trans hw)⟩
def CN (rows:Nat→Zc)(fit:Nat→Bool)(lo hi:Nat):List Zc:=((List.range' lo (hi - lo)).filter fit).map rows
section
variable {rows:Nat→Zc}{fit:Nat→Bool}
theorem M5 (lo:Nat):CN rows fit lo lo=[]:=by simp[CN]
theorem RD {lo k:Nat}(h:lo≤k):CN rows fit lo (k+1)=if fit k=true then CN rows fit lo k++ [rows k] else CN rows fit lo k:=by
 unfold CN;have e:k+1 - lo=(k - lo)+1:=by omega
 rw[e,List.range'_concat,List.filter_append,List.map_append];have e2:lo+1*(k - lo)=k:=by omega
 rw[e2];by_cases hf:fit k=true<;>simp[hf]
theorem C9 {lo hi:Nat}:(CN rows fit lo hi).length≤hi - lo:=by
 unfold CN;rw[List.length_map];refine Zx (List.length_filter_le _ _) (by simp)
theorem cC {lo mid hi:Nat}(h1:lo≤mid)(h2:mid≤hi):CN rows fit lo mid++CN rows fit mid hi=CN rows fit lo hi:=by
 unfold CN;rw[←List.map_append, ←List.filter_append]
 congr 2
 have e:hi - lo=(mid - lo)+(hi - mid):=by omega
 rw[e, ←List.range'_append_1]
 congr 2
 omega
end
def RE (base lo k:Nat)(rows:Nat→Zc)(fit:Nat→Bool)(v:Zc)(wr:Zb):Prop:=wr.ownsRow base 22 1 v (CN rows fit lo k).length (CN rows fit lo k)
theorem EM {W w1:Zb}(hb:Zm W.heap.size W w1):(∀b o,b<W.heap.size→w1.cell? ⟨b,o,none⟩=W.cell? ⟨b,o,none⟩)∧(∀b o,b<W.heap.size→w1.frozen? ⟨b,o,none⟩=W.frozen? ⟨b,o,none⟩):=
 ⟨fun b o h=>hb.cell (p:=⟨b,o,none⟩) h,fun b o h=>hb.frozen (p:=⟨b,o,none⟩) h⟩
theorem aj9 {w:Zb}{gc:Array Zc}{la:Option Addr}{ln lc:Nat}{sv:Zc}{rows:Nat→Zc}{fit:Nat→Bool}{b:Nat}(H:L9 b w gc la ln lc sv rows fit)(GN:b≤w.heap.size):
  Calls Lp 155 #[.agg gc,.slice la ln lc,sv] w fun e w'=>∃v,e=.returned v∧RE w.heap.size 0 ln rows fit v w'∧Zm w.heap.size w w':=by
 obtain⟨i0,hi,Fg,El,EN⟩:=YC Jf;have Nz:=H.small;go_enter Lp.func155,cB;go_wp2
 go_loopw [3,5] (fun v i wr=>∃k:Nat,k≤ln∧i=.int .i64 k∧RE w.heap.size 0 k rows fit v wr∧Zm w.heap.size w wr) (fun _ i _=>ln - (intOf i).toNat)
 case atStart=>exact⟨0,Zt _,rfl,by unfold RE;rw[M5];exact Yz _ _ _ _,Zi _ _⟩
 case round=>
  obtain⟨k,hk,rfl,AY,C4⟩:=hrel;have D1:=C4.size;by_cases Az:k<ln
  ·obtain⟨ad,rfl,Eh,Qa⟩:=H.there k Az
   obtain⟨ra,rn,rc,hr⟩:=H.row k Az;have IK:=H.fits k Az wr (EE.below C4 GN);have hc:wr.cell? (ad.add k)=some (.slice ra rn rc):=by rw[←hr,C4.cell (p:=ad.add k) (by rw[Ct];omega)];exact Qa
   rw[hr]at IK;clear Qa;have HS:=Zh (RD (rows:=rows) (fit:=fit) (Zt k));have HR:=Zh hr;clear hr;cases T4:fit k with
   |true=>
    rw[T4]at IK;have HF:=Zh T4;clear T4;have Be:wr.ownsRow w.heap.size 22 1 u3 (CN rows fit 0 k).length (CN rows fit 0 k):=AY;clear AY;go_wp2_with (first
     |(go_at_call 126;refine IK.mono ?_;rintro e w1 ⟨rfl,FZ⟩)
     |(at_builtin;refine Gv (P:=Lp) (W:=w1) rfl (.tmp 3) (.tmp 10) 27 rfl w.heap.size 22 i0 (.slice none 0 0) 1 24 (CM Yn) (D3 hi) Fg El EN rfl (by decide) u3 _ _ rfl (GX Be FZ) ⟨w1.heap.size,0,none⟩ [.slice ra rn rc] 1 rfl rfl ?_ rfl ?c1 ?c2 ?c3 ?c4
       intro v' w2 Cx ET))
    case c1=>simp[ZaL]
    case c2=>have:=C9 (rows:=rows) (fit:=fit) (lo:=0) (hi:=k);simp only[maxLen];omega
    case c3=>have:=C9 (rows:=rows) (fit:=fit) (lo:=0) (hi:=k);omega
    case c4=>have:=FZ.size;omega
    have h3:=HS.out;rw[if_pos HF.out,HR.out]at h3;have h4:RE w.heap.size 0 (k+1) rows fit v' w2:=by unfold RE;rw[h3];simpa using Cx
    have h5:Zm w.heap.size w w2:=(C4.trans (FZ.mono D1)).trans ET;clear Cx ET h3 Be IK hc;go_wp2
    go_roundw
    case rel=>exact⟨k+1,by omega,by go_num,h4,h5⟩
    case measure=>simp[intOf];omega
   |false=>
    rw[T4]at IK;have HF:=Zh T4;clear T4;go_wp2_with (first|(go_at_call 126;refine IK.mono ?_;rintro e w1 ⟨rfl,FZ⟩));have h3:=HS.out;rw[if_neg (by rw[HF.out];simp)]at h3;have h4:RE w.heap.size 0 (k+1) rows fit u3 w1:=by unfold RE;rw[h3];exact GX AY FZ
    have h5:Zm w.heap.size w w1:=C4.trans (FZ.mono D1)
    go_roundw
    case rel=>exact⟨k+1,by omega,by go_num,h4,h5⟩
    case measure=>simp[intOf];omega
  ·have U3:k=ln:=by omega
   subst U3;go_wp2;go_ret;exact⟨_,rfl,AY,C4⟩
theorem ae4 (t:Array Zc)(h:t.size=8):∃a0 a1 a2 a3 a4 a5 a6 a7,t= #[a0,a1,a2,a3,a4,a5,a6,a7]:=by
 obtain⟨l⟩:=t
 match l,h with
 | [a0,a1,a2,a3,a4,a5,a6,a7],_=>exact⟨a0,a1,a2,a3,a4,a5,a6,a7,rfl⟩
theorem cE (a:Addr)(i j:Nat):(a.add i).add j=a.add (i+j):=by
 unfold Addr.add;by_cases hi:i=0<;>by_cases hj:j=0<;>simp[hi,hj,Nat.add_assoc]
def rp (wl:Zb)(p lo hi:Nat)(rows:Nat→Zc)(fit:Nat→Bool)(e:Ending)(w':Zb):Prop:=
 ∃v,e=.returned (.tuple #[v,.pointer (some ⟨p,0,none⟩)])∧RE wl.heap.size lo hi rows fit v w'∧Zm wl.heap.size wl w'
theorem xC {wl:Zb}{gc:Array Zc}{ad:Addr}{ln lc:Nat}{sv:Zc}{rows:Nat→Zc}{fit:Nat→Bool}{b l p g s:Nat}{fz:Nat×Nat}(H:L9 b wl gc (some ad) ln lc sv rows fit)(GN:b≤wl.heap.size)
  (hl:wl.cell? ⟨l,0,none⟩=some (.slice (some ad) ln lc)) (hp:wl.cell? ⟨p,0,none⟩=some (.int .i64 0)) (hg:wl.heap[g]?=some (.cells gc 112 fz)) (hs:wl.cell? ⟨s,0,none⟩=some sv):
  Calls Lp 156 (EK l p g s) wl (rp wl p 0 (ln / 2) rows fit):=by
 obtain⟨i0,hi,Fg,El,EN⟩:=YC Jf;have Nz:=H.small;obtain⟨c0,c1,c2,c3,c4,c5,c6,c7,rfl⟩:=ae4 gc H.eY;obtain⟨sa,sn,sc,rfl⟩:=H.mH;have wO:=H.cap;have I3:maxLen=9223372036854775807:=rfl;have M6:∀i v,(#[c0,c1,c2,c3,c4,c5,c6,c7]:Array Zc)[i]?=some v→wl.cell? ⟨g,i,none⟩=some v:=fun i v hv=>by rw[cell_of_row wl g i _ 112 fz hg];exact hv
 have Ps:g<wl.heap.size:=(Za.1 hg).1;have Pt:s<wl.heap.size:=ZH wl _ hs;have q1:(ln:Int) / 2≤(lc:Int):=by omega
 have HH:=Zh H;clear hg;unfold EK ptr;go_enter Lp.func156,L6;simp only[IH,FY,ZaY,Zw,lef,pH];go_wp2;clear hl hp
 go_loopw [6,23] (fun v i wr=>∃k:Nat,k≤ln / 2∧i=.int .i64 k∧RE wl.heap.size 0 k rows fit v wr∧Zm wl.heap.size wl wr) (fun _ i _=>ln / 2 - (intOf i).toNat)
 case atStart=>exact⟨0,Zt _,rfl,by unfold RE;rw[M5];exact Yz _ _ _ _,Zi _ _⟩
 case round=>
  obtain⟨k,hk,rfl,AY,C4⟩:=hrel;have D1:=C4.size;by_cases Az:k<ln / 2
  ·obtain⟨ad',e,Eh,Qa⟩:=H.there k (by omega)
   cases e;obtain⟨ra,rn,rc,hr⟩:=H.row k (by omega);have IK:=H.fits k (by omega) wr (EE.below C4 GN);have hc:wr.cell? (ad.add k)=some (.slice ra rn rc):=by rw[←hr,C4.cell (p:=ad.add k) (by rw[Ct];omega)];exact Qa
   rw[hr]at IK;clear Qa;have HS:=Zh (RD (rows:=rows) (fit:=fit) (Zt k));have HR:=Zh hr;clear hr;have g0:wr.cell? ⟨g,0,none⟩=some c0:=by rw[C4.cell (p:=⟨g,0,none⟩) Ps];exact M6 0 c0 rfl
   have g1:wr.cell? ⟨g,1,none⟩=some c1:=by rw[C4.cell (p:=⟨g,1,none⟩) Ps];exact M6 1 c1 rfl
   have g2:wr.cell? ⟨g,2,none⟩=some c2:=by rw[C4.cell (p:=⟨g,2,none⟩) Ps];exact M6 2 c2 rfl
   have g3:wr.cell? ⟨g,3,none⟩=some c3:=by rw[C4.cell (p:=⟨g,3,none⟩) Ps];exact M6 3 c3 rfl
   have g4:wr.cell? ⟨g,4,none⟩=some c4:=by rw[C4.cell (p:=⟨g,4,none⟩) Ps];exact M6 4 c4 rfl
   have g5:wr.cell? ⟨g,5,none⟩=some c5:=by rw[C4.cell (p:=⟨g,5,none⟩) Ps];exact M6 5 c5 rfl
   have g6:wr.cell? ⟨g,6,none⟩=some c6:=by rw[C4.cell (p:=⟨g,6,none⟩) Ps];exact M6 6 c6 rfl
   have g7:wr.cell? ⟨g,7,none⟩=some c7:=by rw[C4.cell (p:=⟨g,7,none⟩) Ps];exact M6 7 c7 rfl
   have DJ:wr.cell? ⟨s,0,none⟩=some (.slice sa sn sc):=by rw[C4.cell (p:=⟨s,0,none⟩) Pt];exact hs
   have HGC:=Zh M6;clear M6 hs H;cases T4:fit k with
   |true=>
    rw[T4]at IK;have HF:=Zh T4;clear T4;have Be:wr.ownsRow wl.heap.size 22 1 u6 (CN rows fit 0 k).length (CN rows fit 0 k):=AY;clear AY;go_wp2_with (first
     |(go_at_call 126;refine IK.mono ?_;rintro e w1 ⟨rfl,FZ⟩)
     |(at_builtin;refine Gv (P:=Lp) (W:=w1) rfl (.tmp 31) (.tmp 33) 27 rfl wl.heap.size 22 i0 (.slice none 0 0) 1 24 (CM Yn) (D3 hi) Fg El EN rfl (by decide) u6 _ _ rfl (GX Be FZ) ⟨w1.heap.size,0,none⟩ [.slice ra rn rc] 1 rfl rfl ?_ rfl ?c1 ?c2 ?c3 ?c4
       intro v' w2 Cx ET))
    case c1=>simp[ZaL]
    case c2=>have:=C9 (rows:=rows) (fit:=fit) (lo:=0) (hi:=k);omega
    case c3=>have:=C9 (rows:=rows) (fit:=fit) (lo:=0) (hi:=k);omega
    case c4=>have:=FZ.size;omega
    have h3:=HS.out;rw[if_pos HF.out,HR.out]at h3;have h4:RE wl.heap.size 0 (k+1) rows fit v' w2:=by unfold RE;rw[h3];simpa using Cx
    have h5:Zm wl.heap.size wl w2:=(C4.trans (FZ.mono D1)).trans ET;clear Cx ET h3 Be IK hc g0 g1 g2 g3 g4 g5 g6 g7 DJ;go_wp2
    go_roundw
    case rel=>exact⟨k+1,by omega,by go_num,h4,h5⟩
    case measure=>simp[intOf];omega
   |false=>
    rw[T4]at IK;have HF:=Zh T4;clear T4;go_wp2_with (first|(go_at_call 126;refine IK.mono ?_;rintro e w1 ⟨rfl,FZ⟩));have h3:=HS.out;rw[if_neg (by rw[HF.out];simp)]at h3;have h4:RE wl.heap.size 0 (k+1) rows fit u6 w1:=by unfold RE;rw[h3];exact GX AY FZ
    have h5:Zm wl.heap.size wl w1:=C4.trans (FZ.mono D1)
    go_roundw
    case rel=>exact⟨k+1,by omega,by go_num,h4,h5⟩
    case measure=>simp[intOf];omega
  ·obtain rfl:k=ln / 2:=by omega
   clear H M6;go_wp2
   (try simp only[Exit.inBlock,Exit.then])
   refine bodyPost_end (results_tmp2 rfl _ _ _) rfl ?_;exact⟨_,rfl,AY,C4⟩
theorem xD {wl:Zb}{gc:Array Zc}{ad:Addr}{ln lc:Nat}{sv:Zc}{rows:Nat→Zc}{fit:Nat→Bool}{b l p g s:Nat}{fz:Nat×Nat}(H:L9 b wl gc (some ad) ln lc sv rows fit)(GN:b≤wl.heap.size)
  (hl:wl.cell? ⟨l,0,none⟩=some (.slice (some ad) ln lc)) (hp:wl.cell? ⟨p,0,none⟩=some (.int .i64 1)) (Vi:0<ln) (hg:wl.heap[g]?=some (.cells gc 112 fz)) (hs:wl.cell? ⟨s,0,none⟩=some sv):
  Calls Lp 156 (EK l p g s) wl (rp wl p (ln / 2) ln rows fit):=by
 obtain⟨i0,hi,Fg,El,EN⟩:=YC Jf;have Nz:=H.small;obtain⟨c0,c1,c2,c3,c4,c5,c6,c7,rfl⟩:=ae4 gc H.eY;obtain⟨sa,sn,sc,rfl⟩:=H.mH;have wO:=H.cap;have I3:maxLen=9223372036854775807:=rfl;have M6:∀i v,(#[c0,c1,c2,c3,c4,c5,c6,c7]:Array Zc)[i]?=some v→wl.cell? ⟨g,i,none⟩=some v:=fun i v hv=>by rw[cell_of_row wl g i _ 112 fz hg];exact hv
 have Ps:g<wl.heap.size:=(Za.1 hg).1;have Pt:s<wl.heap.size:=ZH wl _ hs;have q1:(ln:Int) / 2≤(lc:Int):=by omega
 have q2:¬lc=ln / 2:=by omega
 have q3:(ln:Int) / 2≤(ln:Int):=by omega
 have q4:(ln:Int)≤(lc:Int):=by omega
 have HH:=Zh H;clear hg;unfold EK ptr;go_enter Lp.func156,L6;simp only[IH,FY,ZaY,Zw,lef,pH];go_wp2;clear hl hp
 go_loopw [6,23] (fun v i wr=>∃k:Nat,k≤ln - ln / 2∧i=.int .i64 k∧RE wl.heap.size (ln / 2) (ln / 2+k) rows fit v wr∧Zm wl.heap.size wl wr) (fun _ i _=>ln - ln / 2 - (intOf i).toNat)
 case atStart=>exact⟨0,Zt _,rfl,by unfold RE;rw[Nat.add_zero,M5];exact Yz _ _ _ _,Zi _ _⟩
 case round=>
  obtain⟨k,hk,rfl,AY,C4⟩:=hrel;have D1:=C4.size;by_cases Az:k<ln - ln / 2
  ·obtain⟨ad',e,Eh,Qa⟩:=H.there (ln / 2+k) (by omega)
   cases e;obtain⟨ra,rn,rc,hr⟩:=H.row (ln / 2+k) (by omega);have IK:=H.fits (ln / 2+k) (by omega) wr (EE.below C4 GN);have hc:wr.cell? ((ad.add (ln / 2)).add k)=some (.slice ra rn rc):=by rw[cE, ←hr,C4.cell (p:=ad.add (ln / 2+k)) (by rw[Ct];omega)];exact Qa
   rw[hr]at IK;clear Qa;have HS:=Zh (RD (rows:=rows) (fit:=fit) (show ln / 2≤ln / 2+k by omega));have HR:=Zh hr;clear hr;have g0:wr.cell? ⟨g,0,none⟩=some c0:=by rw[C4.cell (p:=⟨g,0,none⟩) Ps];exact M6 0 c0 rfl
   have g1:wr.cell? ⟨g,1,none⟩=some c1:=by rw[C4.cell (p:=⟨g,1,none⟩) Ps];exact M6 1 c1 rfl
   have g2:wr.cell? ⟨g,2,none⟩=some c2:=by rw[C4.cell (p:=⟨g,2,none⟩) Ps];exact M6 2 c2 rfl
   have g3:wr.cell? ⟨g,3,none⟩=some c3:=by rw[C4.cell (p:=⟨g,3,none⟩) Ps];exact M6 3 c3 rfl
   have g4:wr.cell? ⟨g,4,none⟩=some c4:=by rw[C4.cell (p:=⟨g,4,none⟩) Ps];exact M6 4 c4 rfl
   have g5:wr.cell? ⟨g,5,none⟩=some c5:=by rw[C4.cell (p:=⟨g,5,none⟩) Ps];exact M6 5 c5 rfl
   have g6:wr.cell? ⟨g,6,none⟩=some c6:=by rw[C4.cell (p:=⟨g,6,none⟩) Ps];exact M6 6 c6 rfl
   have g7:wr.cell? ⟨g,7,none⟩=some c7:=by rw[C4.cell (p:=⟨g,7,none⟩) Ps];exact M6 7 c7 rfl
   have DJ:wr.cell? ⟨s,0,none⟩=some (.slice sa sn sc):=by rw[C4.cell (p:=⟨s,0,none⟩) Pt];exact hs
   have HGC:=Zh M6;clear M6 hs H;cases T4:fit (ln / 2+k) with
   |true=>
    rw[T4]at IK;have HF:=Zh T4;clear T4;have Be:wr.ownsRow wl.heap.size 22 1 u6 (CN rows fit (ln / 2) (ln / 2+k)).length (CN rows fit (ln / 2) (ln / 2+k)):=AY;clear AY;go_wp2_with (first
     |(go_at_call 126;refine IK.mono ?_;rintro e w1 ⟨rfl,FZ⟩)
     |(at_builtin;refine Gv (P:=Lp) (W:=w1) rfl (.tmp 31) (.tmp 33) 27 rfl wl.heap.size 22 i0 (.slice none 0 0) 1 24 (CM Yn) (D3 hi) Fg El EN rfl (by decide) u6 _ _ rfl (GX Be FZ) ⟨w1.heap.size,0,none⟩ [.slice ra rn rc] 1 rfl rfl ?_ rfl ?c1 ?c2 ?c3 ?c4
       intro v' w2 Cx ET))
    case c1=>simp[ZaL]
    case c2=>have:=C9 (rows:=rows) (fit:=fit) (lo:=ln / 2) (hi:=ln / 2+k);omega
    case c3=>have:=C9 (rows:=rows) (fit:=fit) (lo:=ln / 2) (hi:=ln / 2+k);omega
    case c4=>have:=FZ.size;omega
    have h3:=HS.out;rw[Nat.add_assoc]at h3;rw[if_pos HF.out,HR.out]at h3;have h4:RE wl.heap.size (ln / 2) (ln / 2+(k+1)) rows fit v' w2:=by unfold RE;rw[h3];simpa using Cx
    have h5:Zm wl.heap.size wl w2:=(C4.trans (FZ.mono D1)).trans ET;clear Cx ET h3 Be IK hc g0 g1 g2 g3 g4 g5 g6 g7 DJ;go_wp2
    go_roundw
    case rel=>exact⟨k+1,by omega,by go_num,h4,h5⟩
    case measure=>simp[intOf];omega
   |false=>
    rw[T4]at IK;have HF:=Zh T4;clear T4;go_wp2_with (first|(go_at_call 126;refine IK.mono ?_;rintro e w1 ⟨rfl,FZ⟩));have h3:=HS.out;rw[Nat.add_assoc]at h3;rw[if_neg (by rw[HF.out];simp)]at h3;have h4:RE wl.heap.size (ln / 2) (ln / 2+(k+1)) rows fit u6 w1:=by unfold RE;rw[h3];exact GX AY FZ
    have h5:Zm wl.heap.size wl w1:=C4.trans (FZ.mono D1)
    go_roundw
    case rel=>exact⟨k+1,by omega,by go_num,h4,h5⟩
    case measure=>simp[intOf];omega
  ·obtain rfl:k=ln - ln / 2:=by omega
   have e:ln / 2+(ln - ln / 2)=ln:=by omega
   rw[e]at AY;clear e;clear H M6;go_wp2
   (try simp only[Exit.inBlock,Exit.then])
   refine bodyPost_end (results_tmp2 rfl _ _ _) rfl ?_;exact⟨_,rfl,AY,C4⟩
theorem xE {wl:Zb}{la:Option Addr}{lc:Nat}{rows:Nat→Zc}{fit:Nat→Bool}{l p g s:Nat}{k:Int}(hk:k=0∨k=1)
  (hl:wl.cell? ⟨l,0,none⟩=some (.slice la 0 lc)) (hp:wl.cell? ⟨p,0,none⟩=some (.int .i64 k)):
  Calls Lp 156 (EK l p g s) wl (rp wl p 0 0 rows fit):=by
 have I3:maxLen=9223372036854775807:=rfl;unfold EK ptr;rcases hk with rfl|rfl<;>cases la
 all_goals
  go_enter Lp.func156,L6;simp only[IH,FY,ZaY,Zw,lef,pH];go_wp2;refine wp_loop_rounds 1 ?_;rw[Yw];go_wp2
  (try simp only[Exit.inBlock,Exit.then])
  refine bodyPost_end (results_tmp2 rfl _ _ _) rfl ?_;exact⟨_,rfl,by unfold RE;rw[M5];exact Yz _ _ _ _,Zi _ _⟩
theorem ajb {wl:Zb}{gc:Array Zc}{la:Option Addr}{ln lc:Nat}{sv:Zc}{rows:Nat→Zc}{fit:Nat→Bool}{b l p g s:Nat}{fz:Nat×Nat}(H:L9 b wl gc la ln lc sv rows fit)(GN:b≤wl.heap.size)(k:Nat)(hk:k<2)
  (hl:wl.cell? ⟨l,0,none⟩=some (.slice la ln lc)) (hp:wl.cell? ⟨p,0,none⟩=some (.int .i64 k)) (hg:wl.heap[g]?=some (.cells gc 112 fz)) (hs:wl.cell? ⟨s,0,none⟩=some sv):
  Calls Lp 156 (EK l p g s) wl (rp wl p (k*ln / 2) ((k+1)*ln / 2) rows fit):=by
 by_cases h0:ln=0
 ·subst h0
  have e1:k*0 / 2=0:=by omega
  have e2:(k+1)*0 / 2=0:=by omega
  rw[e1,e2];exact xE (k:=k) (by omega) hl hp
 ·obtain⟨ad,rfl,_⟩:=H.there 0 (by omega)
  have JS:k=0∨k=1:=by omega
  rcases JS with rfl|rfl
  ·have e1:0*ln / 2=0:=by omega
   have e2:(0+1)*ln / 2=ln / 2:=by omega
   rw[e1,e2];exact xC H GN hl hp hg hs
  ·have e1:1*ln / 2=ln / 2:=by omega
   have e2:(1+1)*ln / 2=ln:=by omega
   rw[e1,e2];exact xD H GN hl hp (by omega) hg hs
theorem EF {P:Zp}{w:Zb}{ops:Array Oper}{rest:List Oper}{o:Oper}{a:Act}{Q:Exit→Act→Zb→Prop}(xz:o.guard=none)(s x:Operand)(t:Zs)
  (ho:o.op=.call {callee:=.builtin .append,args:= #[s,x],argTypes:= #[t,t]})
  (e:Zs) (i:TypeInfo) (ht:P.underlying t=some (.slice e)) (hi:P.info? e=some i)
  (hs:a.eval s=.slice none 0 0) (A:Option Addr) (c:Nat) (hx:a.eval x=.slice A 0 c)
  (h:wpList P ops Q rest (a.put o.dst (.slice none 0 0)) w):wpList P ops Q (o::rest) a w:=by
 refine wpList_plain xz fun _ hK=>?_;have Bs:(Zaa #[t,t] o.type #[.slice none 0 0,.slice A 0 c]).run P w=.ok (.slice none 0 0) w:=by
  cases A<;>simp[Zaa,YS ht,sizeOf,typeInfo,hi,Builtin.lenOf,Zu]
  rfl
 unfold Oper.wp execOp;simp only[ho,resolve,invoke,builtin,za,Sem.run_pure,Zaj,List.map_toArray,List.map_cons,List.map_nil,hs,hx,Bs];exact hK _ _ h
def xF (w:Zb)(xs:List Zc)(e:Ending)(w':Zb):Prop:=
 ∃w₁,Zm w.heap.size w w₁∧(xs.length=0→e=.returned (.slice none 0 0)∧w'=w₁)∧
  (0<xs.length→e=.returned (.slice (some ⟨w₁.heap.size,0,none⟩) xs.length (grownCap w₁ xs.length 0 22))∧w'=w₁.drew.alloc (.cells (xs.toArray++Zr #[.slice none 0 0] (grownCap w₁ xs.length 0 22 - xs.length)) 22))
theorem Xx {w:Zb}{gc:Array Zc}{la:Option Addr}{ln lc:Nat}{sv:Zc}{rows:Nat→Zc}{fit:Nat→Bool}(H:L9 w.heap.size w gc la ln lc sv rows fit)(h1:(((zu 1 0 3).cut (w.tape w.drawn (.appendCap 1 0 3)):Int)==1)=false):
  Calls Lp 104 #[.agg gc,.slice la ln lc,sv] w (xF w (CN rows fit 0 ln)):=by
 obtain⟨i0,hi,Fg,El,EN⟩:=YC Jf;have hb:=t3b;have Nz:=H.small;have Pt:=C9 (rows:=rows) (fit:=fit) (lo:=0) (hi:=ln);have hW:∀W,Zm w.heap.size w W→Calls Lp 155 #[.agg gc,.slice la ln lc,sv] W fun e w'=>∃v,e=.returned v∧RE W.heap.size 0 ln rows fit v w'∧Zm W.heap.size W w':=fun W hB=>aj9 (H.Au (EE.below hB (Zj _))) hB.size;have asq:∀u∈CN rows fit 0 ln,u.oneCell'=true:=by
  intro u hu;unfold CN at hu;obtain⟨i,hi,rfl⟩:=List.mem_map.1 hu;have:=(List.mem_filter.1 hi).1;rw[List.mem_range']at this;obtain⟨j,hj,rfl⟩:=this;obtain⟨a,n,c,e⟩:=H.row (0+1*j) (by omega);rw[e];rfl
 have Bh:∀W W',Zm w.heap.size w W→Zm W.heap.size W W'→Zm w.heap.size w W':=fun W W' h k=>h.trans (k.mono h.size);generalize hxs:CN rows fit 0 ln=xs at*;have hX:=Zh hxs;clear hxs;by_cases hz:xs.length=0
 ·have hW0:∀W,Zm w.heap.size w W→Calls Lp 155 #[.agg gc,.slice la ln lc,sv] W fun e w'=>∃A c,e=.returned (.slice A 0 c)∧Zm w.heap.size w w':=fun W hB=>(hW W hB).mono fun e w' ⟨v,he,hs,hb⟩=>by
   have DJ:w'.ownsRow W.heap.size 22 1 v (CN rows fit 0 ln).length (CN rows fit 0 ln):=hs;rw[hX.out,hz]at DJ;rcases DJ.2 with⟨rfl,_⟩|⟨g,cap,cur,rfl,_⟩
   ·exact⟨_,_,he,Bh _ _ hB hb⟩
   ·exact⟨_,_,he,Bh _ _ hB hb⟩
  clear hW;have HZ:=Zh hz;clear hz Fg El EN;go_enter Lp.func104,L5;go_wp2_with (first
   |(go_at_call 155;refine(hW0 _ (((Zi _ _).alloc (Zj _) _).alloc (by simp) _).drew).mono ?_
     rintro e w1 ⟨A,c,rfl,FZ⟩)
   |(at_builtin;refine EF (P:=Lp) (w:=w1) rfl (.const (.slice none 0 0)) (.tmp 11) 27 rfl 22 i0 (CM Yn) (D3 hi) rfl A c rfl ?_))
  all_goals go_ret
  all_goals exact⟨w1,FZ,fun _=>⟨rfl,rfl⟩,fun h=>absurd HZ.out (by omega)⟩
 ·have ko:∀W,Zm w.heap.size w W→Calls Lp 155 #[.agg gc,.slice la ln lc,sv] W fun e w'=>∃ad c,e=.returned (.slice (some ad) xs.length c)∧Zm w.heap.size w w'∧∀j v,xs[j]?=some v→w'.cell? (ad.add j)=some v:=fun W hB=>(hW W hB).mono fun e w' ⟨v,he,hs,hb⟩=>by
   have DJ:w'.ownsRow W.heap.size 22 1 v (CN rows fit 0 ln).length (CN rows fit 0 ln):=hs;rw[hX.out]at DJ;rcases DJ.2 with⟨_,h0⟩|⟨g,cap,cur,rfl,_⟩
   ·exact absurd h0 hz
   ·exact⟨_,_,he,Bh _ _ hB hb,DJ.cells rfl⟩
  clear hW;have HP:=Zh (Nat.pos_of_ne_zero hz);clear hz;go_enter Lp.func104,L5;go_wp2_with (first
   |(go_at_call 155;refine(ko _ (((Zi _ _).alloc (Zj _) _).alloc (by simp) _).drew).mono ?_
     rintro e w1 ⟨ad,c,rfl,FZ,RF⟩)
   |(at_builtin;refine M3 (P:=Lp) (w:=w1) rfl (.const (.slice none 0 0)) (.tmp 11) 27 rfl 22 i0 (.slice none 0 0) (CM Yn) (D3 hi) Fg rfl ad xs.length c xs rfl (by rw[El];simp) RF HP.out (by omega) (by rw[EN];omega) ?_
     clear RF))
  all_goals go_ret
  all_goals exact⟨w1,FZ,fun h=>absurd HP.out (by omega),fun _=>⟨rfl,rfl⟩⟩
theorem Lw (b:Nat):∀(vs:List Zc) (o:Nat) (w:Zb) (cur:Array Zc) (e:Zs) (f:Nat×Nat),w.heap[b]?=some (.cells cur e f)→
  ∃cF:Array Zc,(w.setCells b o vs).heap[b]?=some (.cells cF e f)∧cF.size=cur.size∧(∀i,cF[i]?=if o≤i∧i<o+vs.length∧i<cur.size then vs[i - o]? else cur[i]?)∧
   (∀k,k≠b→(w.setCells b o vs).heap[k]?=w.heap[k]?)∧(w.setCells b o vs).heap.size=w.heap.size∧(w.setCells b o vs).os=w.os∧(w.setCells b o vs).tape=w.tape∧(w.setCells b o vs).output=w.output
 | [],o,w,cur,e,f,h=>⟨cur,h,rfl,fun i=>by rw[if_neg (by simp;omega)],fun _ _=>rfl,rfl,rfl,rfl,rfl⟩
 |v::r,o,w,cur,e,f,h=>by
  have h1:(w.setCell ⟨b,o,none⟩ v).heap[b]?=some (.cells (cur.setIfInBounds o v) e f):=by
   simp[Z1,Zag,h]
  obtain⟨cF,a1,a2,a3,a4,a5,a6,a7,a8⟩:=Lw b r (o+1) _ _ e f h1;refine⟨cF,a1,by rw[a2];simp,fun i=>?_,fun k hk=>(a4 k hk).trans (Y9 w _ v k hk),by show((w.setCell ⟨b,o,none⟩ v).setCells b (o+1) r).heap.size=_;rw[a5];simp[Z1],a6,a7,a8⟩;rw[a3 i];simp only[Array.size_setIfInBounds,zK];by_cases hi:i<cur.size
  ·rcases Nat.lt_trichotomy i o with h2|h2|h2
   ·rw[if_neg (by omega),if_neg (by omega),Zk (by omega)]
   ·subst h2
    rw[if_neg (by omega),if_pos (by omega),Z9 hi];simp
   ·by_cases h3:i<o+1+r.length
    ·rw[if_pos (by omega),if_pos (by omega)]
     have:i - o=(i - (o+1))+1:=by omega
     rw[this,ZO]
    ·rw[if_neg (by omega),if_neg (by omega),Zk (by omega)]
  ·rw[if_neg (by omega),if_neg (by omega)]
   rw[YG (by simp;omega),YG (by omega)]
abbrev S6:Zc:=.slice none 0 0
def Room (w:Zb)(r c:Nat)(xs:List Zc):Prop:=xs.length≤c∧w.heap[r]?=some (.cells (xs.toArray++Yd (c - xs.length) S6) 22 (0,0))
theorem Ie (n:Nat):Zr #[S6] n=Yd n S6:=by
 unfold Zr;apply Array.ext
 ·simp
 ·intro i h1 h2
  simp[Nat.mod_one]
theorem Room.cell {w:Zb}{r c:Nat}{xs:List Zc}(h:Room w r c xs)(i:Nat):w.cell? ⟨r,i,none⟩=(xs.toArray++Yd (c - xs.length) S6)[i]? :=cell_of_row w r i _ 22 (0,0) h.2
section
variable {P:Zp}
theorem Room.put {w:Zb}{r c:Nat}{xs news:List Zc}(h:Room w r c xs)(hc:xs.length+news.length≤c):Room (w.setCells r xs.length news) r c (xs++news)∧(∀k,k≠r→(w.setCells r xs.length news).heap[k]?=w.heap[k]?)∧(w.setCells r xs.length news).heap.size=w.heap.size∧(w.setCells r xs.length news).os=w.os∧(w.setCells r xs.length news).tape=w.tape∧(w.setCells r xs.length news).output=w.output:=by
 obtain⟨cF,a1,a2,a3,a4⟩:=Lw r news xs.length w _ _ _ h.2;refine⟨⟨by rw[ZV];exact hc,?_⟩,a4⟩;rw[a1]
 congr 2
 have hs:(xs.toArray++Yd (c - xs.length) S6).size=c:=by simp;omega
 apply Array.ext
 ·rw[a2,hs];simp;omega
 ·intro i h1 h2
  have:=a3 i;rw[hs]at this;have hi:i<c:=by rw[a2,hs]at h1;exact h1
  rw[←Option.some_inj, ←ZB h1, ←ZB h2,this];by_cases h3:xs.length≤i
  ·by_cases h4:i<xs.length+news.length
   ·rw[if_pos ⟨h3,h4,hi⟩,zg (by simp;omega)]
    simp[List.getElem?_append_right h3]
   ·rw[if_neg (by omega),Y7 (by simp;omega),Y7 (by simp;omega)]
    simp only[Array.getElem?_replicate];rw[if_pos (by simp;omega),if_pos (by simp;omega)]
  ·rw[if_neg (by omega),zg (by simp;omega),zg (by simp;omega)]
   simp[zD (show i<xs.length by omega)]
theorem Oe {w:Zb}(hi:∃i,P.info? 22=some i∧i.size=1)(ht:P.underlying 27=some (.slice 22))(ty:Zs){r c:Nat}{xs news:List Zc}(h:Room w r c xs)(A:Option Addr)(m mc:Nat)(hl:news.length=m)(hc:xs.length+m≤c)
  (M4:∀j u,news[j]?=some u→∃ad,A=some ad∧w.cell? (ad.add j)=some u) (h1:∀u∈news,u.oneCell'=true):
  (Zaa #[27,27] ty #[.slice (some ⟨r,0,none⟩) xs.length c,.slice A m mc]).run P w=.ok (.slice (some ⟨r,0,none⟩) (xs.length+m) c) (w.setCells r xs.length news):=by
 obtain⟨i,hi,hz⟩:=hi;subst hl;cases A with
 |none=>
  have:news=[]:=by
   cases news with
   |nil=>rfl
   |cons x l=>obtain⟨ad,h,_⟩:=M4 0 x rfl;cases h
  subst this;simp[Zaa,YS ht,sizeOf,typeInfo,hi,Builtin.lenOf,Zu,h.1,storeCells,World.setCells]
 |some ad=>
  have hr:=run_append_room_cells (P:=P) w 27 ty 22 i ht hi r 0 xs.length c ad news.length mc news (by rw[hz];omega) (fun j u hu=>by
   obtain⟨ad',e,hc⟩:=M4 j u hu;cases e;exact hc) h1 hc (fun j hj=>by
    rw[hz,h.cell,ZB (by simp;omega)]
    rfl) (fun j hj=>by
    unfold Yu;rw[h.2];simp)
  rw[hr,hz];simp
end
theorem ae5:Tryz.t22.bytes=24:=by decide+kernel
theorem ajc (n:Nat)(w:Zb)(hn:0<n)(hs:n≤1000000):
  Calls Lp 187 #[.slice none 0 0,.int .i64 n] w fun e w'=>∃c,e=.returned (.slice (some ⟨w.heap.size,0,none⟩) 0 c)∧n≤c∧c≤maxLen∧Room w' w.heap.size c []∧Zm w.heap.size w w':=by
 have b1:¬281474976710656<Yk n 0*Tryz.t22.bytes:=by rw[ae5,nextslicecap_zero hn];omega
 have b2:¬281474976710656<(n:Int)*(Tryz.t22.bytes:Int):=by rw[ae5];omega
 have b3:¬n=0:=by omega
 have b4:decide ((0:Int)<(n:Int))=true:=by simpa using hn
 go_enter Lp.func187,Tryz.ntmps187;go_wp2;go_ret;refine⟨_,rfl,?_,?_,?_,?_⟩
 ·exact grownCap_ge w n 0 22
 ·exact grownCap_le_maxLen w n 0 22 (by simp only[maxLen];omega)
 ·refine⟨Zt _,?_⟩
  have hge:=grownCap_ge w n 0 22;have e:((w.alloc (Obj.cells (Zr #[S6] n++Zr #[S6] ((zu n 0 22).cut (w.tape w.drawn (zu n 0 22)) - n)) 22)).drew).heap[w.heap.size]?=some (.cells (Zr #[S6] n++Zr #[S6] (grownCap w n 0 22 - n)) 22 (0,0)):=heap_alloc_new w _;rw[e,Ie,Ie]
  congr 2
  apply Array.ext
  ·simp[grownCap]at hge⊢;omega
  ·intro i h1 h2
   simp
 ·exact((Zi _ _).alloc (Zj _) _).drew
section
variable {P:Zp}
theorem GD {w:Zb}{ops:Array Oper}{rest:List Oper}{o:Oper}{a:Act}{Q:Exit→Act→Zb→Prop}(xz:o.guard=none)(s x:Operand)
  (ho:o.op=.call {callee:=.builtin .append,args:= #[s,x],argTypes:= #[27,27]}) (hi:∃i,P.info? 22=some i∧i.size=1) (ht:P.underlying 27=some (.slice 22))
  (r c n:Nat) (xs:List Zc) (h:Room w r c xs) (hn:n=xs.length) (hs:a.eval s=.slice (some ⟨r,0,none⟩) n c) (A:Option Addr) (m mc:Nat) (news:List Zc) (hx:a.eval x=.slice A m mc)
  (hK:∀w',Room w' r c (xs++news)→(∀B,B≤r→Zm B w w')→wpList P ops Q rest (a.put o.dst (.slice (some ⟨r,0,none⟩) (n+m) c)) w')
  (hl:news.length=m) (hc:n+m≤c) (M4:∀j u,news[j]?=some u→∃ad,A=some ad∧w.cell? (ad.add j)=some u) (h1:∀u∈news,u.oneCell'=true):wpList P ops Q (o::rest) a w:=by
 subst hn;refine wpList_plain xz fun _ hK'=>?_;have Bs:=Oe (P:=P) hi ht o.type h A m mc hl hc M4 h1;obtain⟨p1,p2,p3,p4,p5,p6⟩:=h.put (news:=news) (by omega);unfold Oper.wp execOp;simp only[ho,resolve,invoke,builtin,za,Sem.run_pure,Zaj,List.map_toArray,List.map_cons,List.map_nil,hs,hx,Bs];exact hK' _ _ (hK _ p1 fun B hB=>⟨p4,p5,p6,Nat.le_of_eq p3.symm,fun k hk=>p2 k (by omega)⟩)
end
def xG (wl:Zb)(xs:List Zc)(e:Ending)(w':Zb):Prop:=
 Zm wl.heap.size wl w'∧(xs.length=0→e=.returned (.slice none 0 0))∧(0<xs.length→∃r c,e=.returned (.slice (some ⟨r,0,none⟩) xs.length c)∧wl.heap.size≤r∧c≤maxLen∧Room w' r c xs)
def Kr (w:Zb)(A:Option Addr)(xs:List Zc):Prop:=∀j u,xs[j]?=some u→∃ad,A=some ad∧ad.block<w.heap.size∧w.cell? (ad.add j)=some u
theorem Kr.below {w w':Zb}{A:Option Addr}{xs:List Zc}(h:Kr w A xs)(hb:Zm w.heap.size w w'):∀j u,xs[j]?=some u→∃ad,A=some ad∧w'.cell? (ad.add j)=some u:=fun j u hu=>by
 obtain⟨ad,h1,h2,h3⟩:=h j u hu;exact⟨ad,h1,by rw[hb.cell (p:=ad.add j) (by rw[Ct];exact h2)];exact h3⟩
theorem xH {wl:Zb}{K:Nat}{A0 A1:Option Addr}{m0 m1:Nat}{SN S7:List Zc}(h0:wl.cell? ⟨K,0,none⟩=some (.slice A0 SN.length m0))(h1:wl.cell? ⟨K,1,none⟩=some (.slice A1 S7.length m1))(Og:Kr wl A0 SN)(T5:Kr wl A1 S7)
  (o0:∀u∈SN,u.oneCell'=true) (o1:∀u∈S7,u.oneCell'=true) (hs:SN.length+S7.length≤1000000) (hp:0<SN.length+S7.length):
  Calls Lp 159 #[.slice (some ⟨K,0,none⟩) 2 2] wl (xG wl (SN++S7)):=by
 have hi:∃i,Lp.info? 22=some i∧i.size=1:=by
  obtain⟨i0,hi,_,h,_⟩:=YC Jf;exact⟨i0,D3 hi,h⟩
 have hG:∀W,Calls Lp 187 #[.slice none 0 0,.int .i64 ((SN.length:Int)+(S7.length:Int))] W fun e w'=>∃c,e=.returned (.slice (some ⟨W.heap.size,0,none⟩) 0 c)∧SN.length+S7.length≤c∧c≤maxLen∧Room w' W.heap.size c []∧Zm W.heap.size W w':=fun W=>by
  have:=ajc (SN.length+S7.length) W hp hs;rwa[Int.natCast_add]at this
 have HX:=Zh (zb Og T5);have HO:=Zh (zb o0 o1);clear Og T5 o0 o1;have hKl:K<wl.heap.size:=ZH wl _ h0;go_enter Lp.func159,Tryz.ntmps159;go_wp2;refine wp_loop_rounds 3 ?_;rw[Yw];go_wp2;rw[Yw];go_wp2;rw[Yw];go_wp2_with (go_at_call 187;refine(hG _).mono ?_;rintro e w1 ⟨c,rfl,SM,Oh,rq,FZ⟩);have k0:w1.cell? ⟨K,0,none⟩=some (.slice A0 SN.length m0):=by rw[FZ.cell (p:=⟨K,0,none⟩) hKl];exact h0
 have k1:w1.cell? ⟨K,1,none⟩=some (.slice A1 S7.length m1):=by rw[FZ.cell (p:=⟨K,1,none⟩) hKl];exact h1
 have HR0:=Zh rq;clear rq h0 h1;refine wp_loop_rounds 3 ?_;rw[Yw];go_wp2_with (at_builtin;refine GD (P:=Lp) (w:=w1) rfl (.tmp 31) (.tmp 32) rfl hi (CM Yn) wl.heap.size c 0 [] HR0.out rfl rfl A0 SN.length m0 SN rfl ?_ rfl (by omega) ?d1 HO.out.1;intro w2 Wc ET)
 case d1=>exact HX.out.1.below FZ
 have Vj:=ET wl.heap.size (Zj _);have S8:Zm wl.heap.size wl w2:=FZ.trans Vj;have k2:w2.cell? ⟨K,1,none⟩=some (.slice A1 S7.length m1):=by rw[Vj.cell (p:=⟨K,1,none⟩) hKl];exact k1
 simp only[zE]at Wc;have HR1:=Zh Wc;clear Wc ET Vj k0 k1;rw[Yw];go_wp2_with (at_builtin;refine GD (P:=Lp) (w:=w2) rfl (.tmp 31) (.tmp 32) rfl hi (CM Yn) wl.heap.size c SN.length SN HR1.out rfl rfl A1 S7.length m1 S7 rfl ?_ rfl (by omega) ?d2 HO.out.2;intro w3 PV uE)
 case d2=>exact HX.out.2.below S8
 have bq:Zm wl.heap.size wl w3:=S8.trans (uE wl.heap.size (Zj _));have HR2:=Zh PV;clear PV uE k2;rw[Yw];go_wp2;go_ret;refine⟨bq,fun h=>absurd h (by rw[ZV];omega),fun _=>⟨wl.heap.size,c,?_,Zj _,Oh,HR2.out⟩⟩;rw[ZV];rfl
theorem xI (w:Zb):Calls Lp 187 #[.slice none 0 0,.int .i64 0] w fun e w'=>e=.returned (.slice none 0 0)∧w=w':=by
 go_enter Lp.func187,Tryz.ntmps187;go_wp2;go_ret;exact⟨rfl,rfl⟩
theorem xJ {wl:Zb}{K:Nat}{A0 A1:Option Addr}{m0 m1:Nat}(h0:wl.cell? ⟨K,0,none⟩=some (.slice A0 0 m0))(h1:wl.cell? ⟨K,1,none⟩=some (.slice A1 0 m1)):
  Calls Lp 159 #[.slice (some ⟨K,0,none⟩) 2 2] wl (xG wl []):=by
 obtain⟨i0,hi,_,_,_⟩:=YC Jf;go_enter Lp.func159,Tryz.ntmps159;go_wp2;refine wp_loop_rounds 3 ?_;rw[Yw];go_wp2;rw[Yw];go_wp2;rw[Yw];go_wp2_with (go_at_call 187;refine(xI _).mono ?_;rintro e w1 ⟨rfl,rfl⟩);refine wp_loop_rounds 3 ?_;rw[Yw];go_wp2_with (at_builtin;refine EF (P:=Lp) (w:=wl) rfl (.tmp 31) (.tmp 32) 27 rfl 22 i0 (CM Yn) (D3 hi) rfl A0 m0 rfl ?_);rw[Yw];go_wp2_with (at_builtin;refine EF (P:=Lp) (w:=wl) rfl (.tmp 31) (.tmp 32) 27 rfl 22 i0 (CM Yn) (D3 hi) rfl A1 m1 rfl ?_);rw[Yw];go_wp2;go_ret;exact⟨Zi _ _,fun _=>rfl,fun h=>absurd h (by simp)⟩
theorem ajd {wl:Zb}{K:Nat}{A0 A1:Option Addr}{m0 m1:Nat}{SN S7:List Zc}(h0:wl.cell? ⟨K,0,none⟩=some (.slice A0 SN.length m0))(h1:wl.cell? ⟨K,1,none⟩=some (.slice A1 S7.length m1))(Og:Kr wl A0 SN)(T5:Kr wl A1 S7)
  (o0:∀u∈SN,u.oneCell'=true) (o1:∀u∈S7,u.oneCell'=true) (hs:SN.length+S7.length≤1000000):
  Calls Lp 159 #[.slice (some ⟨K,0,none⟩) 2 2] wl (xG wl (SN++S7)):=by
 by_cases hp:0<SN.length+S7.length
 ·exact xH h0 h1 Og T5 o0 o1 hs hp
 ·have e0:SN=[]:=Y8 (by omega)
  have e1:S7=[]:=Y8 (by omega);subst e0 e1;exact xJ h0 h1
theorem Oi (e t:Zc)(w:Zb)(h1:(((zu 1 0 3).cut (w.tape w.drawn (.appendCap 1 0 3)):Int)==1)=true):
  Calls Lp 91 #[e,t] w fun e' w'=>e'=.panicked [{v:=Vh #[e,t,L8 w.heap.size],recovered:=false}]∧Zm w.heap.size w w':=by
 have hb:=t3b;go_enter Lp.func91,Od;go_wp2;refine⟨rfl,rfl,?_⟩;exact(((Zi _ _).alloc (Zj _) _).alloc (by simp) _).drew
theorem eZ (t:Zc)(w:Zb)(h1:(((zu 1 0 3).cut (w.tape w.drawn (.appendCap 1 0 3)):Int)==1)=false):
  Calls Lp 91 #[.nilIface,t] w fun e' w'=>e'=.returned (.bool false)∧Zm w.heap.size w w':=by
 have hb:=t3b;go_enter Lp.func91,Od;go_wp2;go_ret;exact⟨rfl,(((Zi _ _).alloc (Zj _) _).alloc (by simp) _).drew⟩
theorem xK (n:Int)(w:Zb):(Instr.typeAssert (.iface 121 (.agg #[.int .i64 n])) 117 121 false).run Lp w=.ok (.agg #[.int .i64 n]) w:=by kernel_rfl
theorem xL (a:Addr)(w:Zb):(Instr.typeAssert (.iface 123 (.pointer (some a))) 20 123 false).run Lp w=.ok (.pointer (some a)) w:=by kernel_rfl
theorem fh (n m:Int)(t:Nat)(w:Zb)(h1:(((zu 1 0 3).cut (w.tape w.drawn (.appendCap 1 0 3)):Int)==1)=false)(ht:w.heap[t]?=some (.cells #[.int .i64 m] 121 (0,0))):
  Calls Lp 91 #[.iface 121 (.agg #[.int .i64 n]),.iface 123 (.pointer (some ⟨t,0,none⟩))] w fun e' w'=>e'=.returned (.bool true)∧Zm w.heap.size (w.setCell ⟨t,0,none⟩ (.int .i64 n)) w':=by
 have hb:=t3b;have x1:=xK;have x2:=xL;have bp:t<w.heap.size:=(Za.1 ht).1;have hc:w.cell? ⟨t,0,none⟩=some (.int .i64 m):=by unfold zJ;rw[ht];rfl
 have hf:w.frozen? ⟨t,0,none⟩=false:=by unfold Yu;rw[ht];simp
 clear ht;go_enter Lp.func91,Od;go_wp2;go_ret;exact⟨rfl,(((Zi _ _).alloc (by simp) _).alloc (by simp) _).drew⟩
end Go.Proofs.Fit
