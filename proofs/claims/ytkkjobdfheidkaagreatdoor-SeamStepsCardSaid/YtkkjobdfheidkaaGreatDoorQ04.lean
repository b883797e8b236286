/- Part of a proof. -/
import Derived.Test.YtkkjobdfheidkaaGreatDoorQ03
import Derived.Conc.WgGenN3
set_option maxRecDepth 100000
set_option maxHeartbeats 6400000
open Go renaming TypeId→Zs,World→Zb,Program→Zp,Goroutine→Zg,Frame→ZA,undef→Ze,Event→ZU,Value→Zc
open Go.Conc renaming stepG_seq→Zn,stepG_region_end→Zf,stepG_skip→ZL,stepG_add_atomic→Zab,stepG_ret'→zO
open Go.Conc.Goes renaming stop→ZQ
open Go.ConcN renaming st_flag→ZaX,st_waiters→Zas
open Go.IntKind renaming wrap_i32→Za1
open List renaming getElem?_toArray→ZY,getElem?_cons_zero→ZN
open Nat renaming eq_zero_or_pos→Yr,lt_of_lt_of_le→Zl
open Option renaming getD_some→Zw
open Option.some renaming injEq→ZI
namespace Go.Pair
open Go Go.Conc Go.BK Go.RowKit Go.Conc.Lib Go.ConcR.Gen Go.ConcN.Gen
open Go.ConcN (WgLive)
open Go.ConcR (KK wgBlock WgAt stA smA rd wr mk DC0)
theorem Af {ty:Zs}{Wg:Nat}{S:Nat→Prop}{w w₁:Zb}(h:WgLive ty Wg w)(r:Ah ty Wg S w w₁):WgLive ty Wg w₁:=r.live h
theorem Rw {P:Zp}:∀ {n d:Nat} {g:Zg},QuitsD P n d g→QuitsD P (n+1) d g
 |0,_,_,h=>.inl h
 |_+1,_,_,h=>h.imp id fun⟨hs,g',es,hm,B3,hq⟩=>⟨hs,g',es,hm,B3,Rw hq⟩
theorem MS {P:Zp}{n m d:Nat}{g:Zg}(h:QuitsD P n d g)(hn:n≤m):QuitsD P m d g:=by
 induction hn with
 |refl=>exact h
 |step _ ih=>exact Rw ih
section
variable {L:WgLink}
theorem qT {P:Zp}(H:WgLib P L){Wg:Nat}{S:Nat→Prop}{b₀:ZA}{P7:Act}{ED:Array Oper}{P8:Nat}{Ez:List Nat}{P9:List Item}{cs:List ZA}{qt:Nat}
  (hT:QuitsD P qt 0 (G (b₀.at (P7.put ((ED[P8]?).bind (·.dst)) (.tuple #[])) (.inRegion ED Ez::P9)) cs)) (w:Zb) (hK:WgLive L.tWg Wg w):
  Goes P false (Ah L.tWg Wg S) DC0 (AtR0 P L.tWg Wg S) 40 (G ((base L.add).at ⟨#[.pointer (some ⟨Wg,0,none⟩),.int .i64 (-1),Ze,Ze,Ze,Ze,Ze,Ze,Ze,Ze,Ze,Ze,Ze,Ze,Ze,Ze,Ze,Ze,Ze,Ze,Ze,Ze,Ze,Ze,Ze,Ze,Ze,Ze,Ze,Ze,Ze,Ze,Ze,Ze,Ze,Ze,Ze,Ze,Ze,Ze,Ze,Ze,Ze,Ze,Ze,Ze,Ze,Ze,Ze,Ze,Ze,Ze,Ze,Ze,Ze,Ze,Ze,Ze,Ze,Ze,Ze,Ze,Ze,Ze,Ze,Ze,Ze,Ze,Ze,Ze,Ze,Ze,Ze,Ze,Ze,Ze,Ze,Ze,Ze,Ze,Ze,Ze,Ze,Ze,Ze,Ze,Ze,Ze,Ze,Ze,Ze,Ze,Ze,Ze,Ze,Ze,Ze,Ze,Ze,Ze,Ze,Ze,Ze,Ze,Ze,Ze,Ze,Ze,Ze,Ze,Ze,Ze,Ze,Ze,Ze,Ze,Ze],[]⟩ [.code (body_add L)]) (b₀.at P7 (.inRegion ED (P8::Ez)::P9)::cs)) w:=by
 lib_facts
 simp only[body_add,addFn,Zw]
 repeat (first|u_c Zn Af hK|u_cond true Af hK|u_c Zf Af hK|u_reg Af hK|u_op Af hK)
 u_conv H.underlying_tWgP H.room_tWg (WgLive.cell0 hK).choose_spec Af hK
 refine ZQ (fun w₁ BJ=>?_);replace hK:=Af hK BJ;clear BJ;refine⟨rfl,_,stepG_markAt .releaseMerge (by simp) rfl rfl (by k_ne) rfl H.f_relMerge (x_relMerge_n L) (x_relMerge_b L) (x_relMerge_x L) (x_relMerge_f L) (by simp[Act.eval,stA]),10,?_⟩
 walk_nrm
 repeat (first|u_c Zn Af hK|u_c Zf Af hK|u_reg Af hK)
 refine ZQ (fun w₁ BJ=>?_);replace hK:=Af hK BJ;clear BJ;refine⟨rfl,_,stepG_mark0 .disable (by simp) rfl rfl (by k_ne) rfl H.f_disable (x_disable_n L) (x_disable_b L) (x_disable_x L) (x_disable_f L),60,?_⟩
 walk_nrm
 repeat (first|u_c Zn Af hK|u_c Zf Af hK|u_c ZL Af hK|u_cond false Af hK|u_reg Af hK|u_op Af hK|u_defer Af hK|u_bub Af hK|u_call H.f_uAdd (nm_uAdd L) uAddFn Af hK)
 refine ZQ (fun w₁ BJ=>?_);clear BJ hK;refine⟨rfl,fun v wt hwt hv hw=>?_⟩;have e0:IntKind.u64.wrap (KK+18446744069414584320)=0:=by decide
 have e1:IntKind.u64.wrap (KK+1+18446744069414584320)=1:=by decide
 rcases Yr v with rfl|hvp<;>(obtain rfl|rfl:wt=0∨wt=1:=by omega)
 ·replace hw:WgAt L.tWg Wg w₁ KK 0:=by simpa using hw
  have z:((0:Nat):Int)*KK+((0:Nat):Int)=0:=by simp
  rw[z];refine⟨_,(Zab rfl rfl (by k_ne) rfl H.f_addU64 (x_addU64_n L) (x_addU64_b L) (x_addU64_x L) .u64 (x_addU64_f L) rfl rfl hw.cellSt (hw.thaw 0)).trans (by rw[e0];rfl),fun hl=>absurd hl.2 (by decide),fun _=>⟨qt+120,?_⟩⟩;clear hw
  walk_nrm
  q_val (.int .u64 0)
  q_c Zf
  q_c zO
  q_leave1 H.f_uAdd
  q_val (.int .u64 0)
  q_c Zf
  (repeat q_c Zn)
  q_reg
  q_val (.int .u64 0)
  q_val (.int .u64 0)
  q_val (.bool false)
  q_val (.bool false)
  q_skip
  q_skip
  q_val (.bool false)
  q_c Zf
  q_cond false
  q_c ZL
  (repeat q_c Zn)
  q_reg
  q_val (.int .u64 0)
  q_val (.int .u64 0)
  q_val (.int .i32 0)
  q_val (.int .i32 0)
  q_c Zf
  (repeat q_c Zn)
  q_reg
  q_val (.int .u64 0)
  q_val (.int .u64 0)
  q_val (.int .u32 0)
  q_val (.int .u32 0)
  q_c Zf
  (repeat q_c Zn)
  q_reg
  q_val (.bool true)
  q_val (.int .i64 (-1))
  q_val (.bool false)
  q_val (.bool false)
  q_val (.bool false)
  q_skip
  q_skip
  q_skip
  q_skip
  q_val (.bool false)
  q_c Zf
  q_cond false
  q_c ZL
  (repeat q_c Zn)
  q_reg
  q_val (.int .i32 0)
  q_val (.bool false)
  q_c Zf
  q_cond false
  q_c ZL
  (repeat q_c Zn)
  q_reg
  q_val (.int .u32 0)
  q_val (.bool false)
  q_val (.bool false)
  q_skip
  q_skip
  q_val (.bool false)
  q_val (.bool false)
  q_skip
  q_skip
  q_skip
  q_skip
  q_val (.bool false)
  q_c Zf
  q_cond false
  q_c ZL
  (repeat q_c Zn)
  q_reg
  q_val (.int .i32 0)
  q_val (.bool false)
  q_val (.bool false)
  q_val (.int .u32 0)
  q_val (.bool true)
  q_val (.bool true)
  q_c Zf
  q_cond true
  q_c zO
  q_enable
  q_leave0 H.f_add
  exact MS hT (by omega)
 ·replace hw:WgAt L.tWg Wg w₁ (KK+1) 0:=by simpa using hw
  have z:((0:Nat):Int)*KK+((1:Nat):Int)=1:=by simp
  rw[z];refine⟨_,(Zab rfl rfl (by k_ne) rfl H.f_addU64 (x_addU64_n L) (x_addU64_b L) (x_addU64_x L) .u64 (x_addU64_f L) rfl rfl hw.cellSt (hw.thaw 0)).trans (by rw[e1];rfl),fun _=>⟨150,?_⟩,fun hl=>absurd ⟨rfl,rfl⟩ hl⟩;have hK:WgLive L.tWg Wg (w₁.setCell (stA Wg) (.int .u64 1)):=⟨_,_,hw.setSt _⟩;clear hw
  walk_nrm
  u_op Af hK
  u_c Zf Af hK
  u_c zO Af hK
  u_leave1 H.f_uAdd Af hK
  u_op Af hK
  u_c Zf Af hK
  (repeat u_c Zn Af hK)
  u_reg Af hK
  iterate 4 (u_op Af hK)
  u_skip Af hK
  u_skip Af hK
  u_op Af hK
  u_c Zf Af hK
  u_cond false Af hK
  u_c ZL Af hK
  (repeat u_c Zn Af hK)
  u_reg Af hK
  iterate 4 (u_op Af hK)
  u_c Zf Af hK
  (repeat u_c Zn Af hK)
  u_reg Af hK
  iterate 4 (u_op Af hK)
  u_c Zf Af hK
  (repeat u_c Zn Af hK)
  u_reg Af hK
  iterate 5 (u_op Af hK)
  u_skip Af hK
  u_skip Af hK
  u_skip Af hK
  u_skip Af hK
  u_op Af hK
  u_c Zf Af hK
  u_cond false Af hK
  u_c ZL Af hK
  (repeat u_c Zn Af hK)
  u_reg Af hK
  u_op Af hK
  u_op Af hK
  u_c Zf Af hK
  u_cond false Af hK
  u_c ZL Af hK
  (repeat u_c Zn Af hK)
  u_reg Af hK
  iterate 7 (u_op Af hK)
  u_skip Af hK
  u_skip Af hK
  u_skip Af hK
  u_skip Af hK
  u_op Af hK
  u_c Zf Af hK
  u_cond false Af hK
  u_c ZL Af hK
  (repeat u_c Zn Af hK)
  u_reg Af hK
  iterate 6 (u_op Af hK)
  u_c Zf Af hK
  u_cond false Af hK
  u_c ZL Af hK
  (repeat (first|u_c Zn Af hK|u_c Zf Af hK|u_reg Af hK|u_op Af hK))
  u_call H.f_uLoad (nm_uLoad L) uLoadFn Af hK
  (repeat (first|u_c Zn Af hK|u_c Zf Af hK|u_reg Af hK|u_op Af hK))
  refine ZQ (fun w₂ Ce=>?_);replace hK:=Af hK Ce;clear Ce;refine⟨rfl,fun hw=>⟨_,stepG_load_atomic (v:=1) rfl rfl (by k_ne) rfl H.f_loadU64 (x_loadU64_n L) (x_loadU64_b L) (x_loadU64_x L) .u64 (x_loadU64_f L) rfl hw.cellSt,60,?_⟩⟩;clear hw
  walk_nrm
  u_op Af hK
  u_c Zf Af hK
  u_c zO Af hK
  u_leave1 H.f_uLoad Af hK
  u_op Af hK
  u_op Af hK
  u_c Zf Af hK
  u_cond false Af hK
  u_c ZL Af hK
  (repeat (first|u_c Zn Af hK|u_c Zf Af hK|u_reg Af hK|u_op Af hK))
  u_call H.f_uStore (nm_uStore L) uStoreFn Af hK
  u_reg Af hK
  iterate 4 (u_op Af hK)
  refine ZQ (fun DL Fb=>?_);clear Fb hK;refine⟨rfl,fun hw=>⟨_,stepG_store_atomic rfl rfl (by k_ne) rfl H.f_storeU64 (x_storeU64_n L) (x_storeU64_b L) (x_storeU64_x L) (x_storeU64_f L) rfl rfl hw.cellSt (hw.thaw 0),60,?_⟩⟩;have hK:WgLive L.tWg Wg (DL.setCell (stA Wg) (.int .u64 0)):=⟨_,_,hw.setSt 0⟩;clear hw
  walk_nrm
  u_c Zf Af hK
  u_c stepG_end Af hK
  u_leave0 H.f_uStore Af hK
  u_c Zf Af hK
  (repeat u_c Zn Af hK)
  u_reg Af hK
  u_op Af hK
  u_c Zf Af hK
  u_cond false Af hK
  u_c ZL Af hK
  u_c stepG_block Af hK
  u_c stepG_loop Af hK
  u_c Zn Af hK
  u_c Zn Af hK
  u_reg Af hK
  u_op Af hK
  u_op Af hK
  u_c Zf Af hK
  u_cond true Af hK
  u_c ZL Af hK
  u_c Zn Af hK
  u_c stepG_block Af hK
  u_reg Af hK
  iterate 3 (u_op Af hK)
  refine ZQ (fun Km bM=>?_);clear bM hK;refine⟨rfl,mayWake_entry rfl rfl H.f_semrelease (x_semrelease_b L),fun hw=>⟨_,(stepG_semrelease (n:=0) rfl rfl (by k_ne) rfl H.f_semrelease (x_semrelease_n L) (x_semrelease_b L) (x_semrelease_x L) (x_semrelease_f L) (by simp[Act.eval,smA]) hw.cellSm (hw.thaw 1)).trans (by rfl),qt+60,?_⟩⟩;clear hw
  walk_nrm
  q_c Zf
  q_c stepG_inBlock
  q_reg
  q_val (.int .u32 1)
  q_val (.int .u32 0)
  q_val (.int .u32 0)
  q_c Zf
  q_c stepG_inLoop
  q_c Zn
  q_c Zn
  q_reg
  q_val (.int .u32 0)
  q_val (.bool false)
  q_c Zf
  q_cond false
  q_exit
  q_c stepG_end
  q_enable
  q_leave0 H.f_add
  exact MS hT (by omega)
 ·obtain⟨V,hV⟩:∃V:Int,V=(v:Int):=⟨_,rfl⟩
  obtain⟨S',hS⟩:∃S':Int,S'=V*KK+0:=⟨_,rfl⟩;have eS:IntKind.u64.wrap (((v:Int)+1)*KK+((0:Nat):Int)+18446744069414584320)=S':=by rw[IntKind.wrap_u64,hS,hV];simp only[KK];omega
  have eT:(v:Int)*KK+((0:Nat):Int)=S':=by rw[hS,hV];simp
  rw[eT];have a1:S' / 4294967296=V:=by rw[hS,hV];simp only[KK];omega
  have b1:bits .and .u64 S' 2147483648=0:=by rw[hS,hV];have:=ZaX v 0 (by omega) (by omega);simpa[KK]using this
  have b2:bits .and .u64 S' 2147483647=0:=by rw[hS,hV];have:=Zas v 0 (by omega) (by omega);simpa[KK]using this
  have c1:IntKind.i32.wrap V=V:=by rw[Za1];omega
  have hV1:0<V:=by omega
  have eO:V<2147483648:=by omega
  have q3:decide (V<0)=false:=decide_eq_false (by omega);have q4:decide (0<V)=true:=decide_eq_true (by omega);refine⟨_,(Zab rfl rfl (by k_ne) rfl H.f_addU64 (x_addU64_n L) (x_addU64_b L) (x_addU64_x L) .u64 (x_addU64_f L) rfl rfl hw.cellSt (hw.thaw 0)).trans (by rw[eS];rfl),fun hl=>absurd hl.1 (by omega),fun _=>⟨qt+120,?_⟩⟩;clear hw hS hV eS eT
  walk_nrm
  q_val (.int .u64 S')
  q_c Zf
  q_c zO
  q_leave1 H.f_uAdd
  q_val (.int .u64 S')
  q_c Zf
  (repeat q_c Zn)
  q_reg
  q_val (.int .u64 S')
  q_vn (.int .u64 0)
  q_val (.bool false)
  q_val (.bool false)
  q_skip
  q_skip
  q_val (.bool false)
  q_c Zf
  q_cond false
  q_c ZL
  (repeat q_c Zn)
  q_reg
  q_val (.int .u64 S')
  q_vn (.int .u64 V)
  q_vn (.int .i32 V)
  q_val (.int .i32 V)
  q_c Zf
  (repeat q_c Zn)
  q_reg
  q_val (.int .u64 S')
  q_vn (.int .u64 0)
  q_vn (.int .u32 0)
  q_val (.int .u32 0)
  q_c Zf
  (repeat q_c Zn)
  q_reg
  q_val (.bool true)
  q_val (.int .i64 (-1))
  q_val (.bool false)
  q_val (.bool false)
  q_val (.bool false)
  q_skip
  q_skip
  q_skip
  q_skip
  q_val (.bool false)
  q_c Zf
  q_cond false
  q_c ZL
  (repeat q_c Zn)
  q_reg
  q_val (.int .i32 V)
  q_vn (.bool false)
  q_c Zf
  q_cond false
  q_c ZL
  (repeat q_c Zn)
  q_reg
  q_val (.int .u32 0)
  q_vn (.bool false)
  q_val (.bool false)
  q_skip
  q_skip
  q_val (.bool false)
  q_val (.bool false)
  q_skip
  q_skip
  q_skip
  q_skip
  q_val (.bool false)
  q_c Zf
  q_cond false
  q_c ZL
  (repeat q_c Zn)
  q_reg
  q_val (.int .i32 V)
  q_vn (.bool true)
  q_val (.bool true)
  q_skip
  q_skip
  q_val (.bool true)
  q_c Zf
  q_cond true
  q_c zO
  q_enable
  q_leave0 H.f_add
  exact MS hT (by omega)
 ·obtain⟨V,hV⟩:∃V:Int,V=(v:Int):=⟨_,rfl⟩
  obtain⟨S',hS⟩:∃S':Int,S'=V*KK+1:=⟨_,rfl⟩;have eS:IntKind.u64.wrap (((v:Int)+1)*KK+((1:Nat):Int)+18446744069414584320)=S':=by rw[IntKind.wrap_u64,hS,hV];simp only[KK];omega
  have eT:(v:Int)*KK+((1:Nat):Int)=S':=by rw[hS,hV];simp
  rw[eT];have a1:S' / 4294967296=V:=by rw[hS,hV];simp only[KK];omega
  have b1:bits .and .u64 S' 2147483648=0:=by rw[hS,hV];have:=ZaX v 1 (by omega) (by omega);simpa[KK]using this
  have b2:bits .and .u64 S' 2147483647=1:=by rw[hS,hV];have:=Zas v 1 (by omega) (by omega);simpa[KK]using this
  have c1:IntKind.i32.wrap V=V:=by rw[Za1];omega
  have hV1:0<V:=by omega
  have eO:V<2147483648:=by omega
  have q3:decide (V<0)=false:=decide_eq_false (by omega);have q4:decide (0<V)=true:=decide_eq_true (by omega);refine⟨_,(Zab rfl rfl (by k_ne) rfl H.f_addU64 (x_addU64_n L) (x_addU64_b L) (x_addU64_x L) .u64 (x_addU64_f L) rfl rfl hw.cellSt (hw.thaw 0)).trans (by rw[eS];rfl),fun hl=>absurd hl.1 (by omega),fun _=>⟨qt+120,?_⟩⟩;clear hw hS hV eS eT
  walk_nrm
  q_val (.int .u64 S')
  q_c Zf
  q_c zO
  q_leave1 H.f_uAdd
  q_val (.int .u64 S')
  q_c Zf
  (repeat q_c Zn)
  q_reg
  q_val (.int .u64 S')
  q_vn (.int .u64 0)
  q_val (.bool false)
  q_val (.bool false)
  q_skip
  q_skip
  q_val (.bool false)
  q_c Zf
  q_cond false
  q_c ZL
  (repeat q_c Zn)
  q_reg
  q_val (.int .u64 S')
  q_vn (.int .u64 V)
  q_vn (.int .i32 V)
  q_val (.int .i32 V)
  q_c Zf
  (repeat q_c Zn)
  q_reg
  q_val (.int .u64 S')
  q_vn (.int .u64 1)
  q_vn (.int .u32 1)
  q_val (.int .u32 1)
  q_c Zf
  (repeat q_c Zn)
  q_reg
  q_val (.bool true)
  q_val (.int .i64 (-1))
  q_val (.bool false)
  q_val (.bool false)
  q_val (.bool false)
  q_skip
  q_skip
  q_skip
  q_skip
  q_val (.bool false)
  q_c Zf
  q_cond false
  q_c ZL
  (repeat q_c Zn)
  q_reg
  q_val (.int .i32 V)
  q_vn (.bool false)
  q_c Zf
  q_cond false
  q_c ZL
  (repeat q_c Zn)
  q_reg
  q_val (.int .u32 1)
  q_vn (.bool true)
  q_val (.bool true)
  q_val (.int .i64 (-1))
  q_val (.bool false)
  q_val (.bool false)
  q_val (.bool false)
  q_skip
  q_skip
  q_skip
  q_skip
  q_val (.bool false)
  q_c Zf
  q_cond false
  q_c ZL
  (repeat q_c Zn)
  q_reg
  q_val (.int .i32 V)
  q_vn (.bool true)
  q_val (.bool true)
  q_skip
  q_skip
  q_val (.bool true)
  q_c Zf
  q_cond true
  q_c zO
  q_enable
  q_leave0 H.f_add
  exact MS hT (by omega)
theorem adi {P:Zp}(H:WgLib P L){Wg:Nat}{S:Nat→Prop}{c:ZA}{cs:List ZA}{qt:Nat}(qI:c.mode=.returning)(hT:QuitsD P qt 0 (G c cs))(w:Zb)(hK:WgLive L.tWg Wg w):
  Goes P false (Ah L.tWg Wg S) DC0 (AtR0 P L.tWg Wg S) 43 (G ((baseD L.done).at ⟨#[.pointer (some ⟨Wg,0,none⟩),Ze,Ze,Ze],[]⟩ [.code (body_done L)]) (c::cs)) w:=by
 lib_facts
 have hA:= @qT L P H Wg S;simp only[body_done,body_add,doneFn,addFn,Zw]at hA⊢
 u_reg Af hK
 u_op Af hK
 u_in Af hK
 refine goes_call rfl rfl (by k_ne) rfl H.f_add (nm_add L) rfl ⟨by u_nil,?_⟩
 walk_nrmf addFn
 refine hA (qt:=qt+3) ?_ _ hK
 q_c Zf
 q_c stepG_end
 exact QuitsD.leaveD rfl rfl H.f_done rfl qI hT
end
end Go.Pair
namespace Go.Pair
open Go Go.Conc Go.BK
open Go.ConcN (WgLive)
structure Kept (ty:Zs)(Wg:Nat)(T₀:Nat→Prop)(w₀:Zb)(S:Nat→Prop)(w:Zb):Prop where
 sub:∀b,T₀ b→S b∧b<w.heap.size
 rely:DM T₀ w₀ w
 lX:¬S Wg
 lt:Wg<w.heap.size
 live:WgLive ty Wg w
theorem WgLive.of_heap {ty:Zs}{Wg:Nat}{w w₁:Zb}(h:WgLive ty Wg w)(e:w₁.heap[Wg]?=w.heap[Wg]?):WgLive ty Wg w₁:=by
 unfold WgLive Go.ConcR.WgAt at*;rw[e];exact h
section
variable {P:Zp}{m:Bool}{ty:Zs}{Wg:Nat}{Stop:B0}
theorem Kept.rel {T₀ S:Nat→Prop}{w₀ w w₂:Zb}(h:Kept ty Wg T₀ w₀ S w)(hr:Ah ty Wg S w w₂):Kept ty Wg T₀ w₀ S w₂:=
 ⟨fun b hb=>⟨(h.sub b hb).1,Zl (h.sub b hb).2 hr.base.size⟩,h.rely.trans ⟨fun b hb=>hr.base.same b (h.sub b hb).1,hr.base.size,hr.base.os⟩,h.lX,Zl h.lt hr.base.size,hr.live h.live⟩
theorem Kept.step {T₀ S:Nat→Prop}{w₀ w w₁:Zb}{es:Array ZU}(h:Kept ty Wg T₀ w₀ S w)(hG:Lb S T₀ w w₁ es):Kept ty Wg T₀ w₀ (Hr S w w₁) w₁:=by
 refine⟨fun b hb=>⟨.inl (h.sub b hb).1,Zl (h.sub b hb).2 hG.size⟩,h.rely.trans ⟨fun b hb=>hG.still b (h.sub b hb).2 (.inr hb),hG.size,hG.os⟩,?_,Zl h.lt hG.size,WgLive.of_heap h.live (hG.still Wg h.lt (.inl h.lX))⟩;rintro(x|x)
 ·exact h.lX x
 ·have:=h.lt;omega
theorem A7.Au {T₀:Nat→Prop}{w₀:Zb}{S:Nat→Prop}{g:Zg}{w:Zb}(h:A7 P m ty Wg T₀ Stop S g w):Kept ty Wg T₀ w₀ S w→
  A7 P m ty Wg T₀ (fun S g w=>Stop S g w∧Kept ty Wg T₀ w₀ S w) S g w:=by
 induction h with
 |stop h=>
  intro hk;exact .stop fun w₂ hr=>⟨h w₂ hr,hk.rel hr⟩
 |step hs Gr EC Ix h _ ih=>
  intro hk;exact .step hs Gr EC Ix h fun w₂ hr=>ih w₂ hr ((hk.rel hr).step (h w₂ hr).2)
end
end Go.Pair
namespace Go.Pair
open Go Go.Conc Go.BK Go.RowKit Go.Conc.Lib Go.ConcR.Gen Go.ConcN.Gen
open Go.ConcN (WgLive)
open Go.ConcR (KK wgBlock WgAt stA smA rd wr mk DC0)
structure F8 (ty:Zs)(Wg:Nat)(S:Nat→Prop)(F:Zb→Prop):Prop where
 rely:∀w w',Ah ty Wg S w w'→F w→F w'
 set:∀w (a:Addr) v,a.block=Wg→F w→F (w.setCell a v)
theorem Ab {ty:Zs}{Wg:Nat}{S:Nat→Prop}{F:Zb→Prop}(Ar:F8 ty Wg S F){w w₁:Zb}(h:F w∧WgLive ty Wg w)(r:Ah ty Wg S w w₁):F w₁∧WgLive ty Wg w₁:=⟨Ar.rely _ _ r h.1,r.live h.2⟩
section
variable {L:WgLink}
theorem qU {P:Zp}(H:WgLib P L){Wg Ch:Nat}{S:Nat→Prop}{F:Zb→Prop}(Ar:F8 L.tWg Wg S F){Pay:FA}{Next:B0}{b₀:ZA}{P7:Act}{ED:Array Oper}{P8:Nat}{Ez:List Nat}{P9:List Item}{cs:List ZA}{mT:Nat}
  (hT:∀w,F w→WgLive L.tWg Wg w→Goes P true (Ah L.tWg Wg S) DC0 (AtGoS P L.tWg Wg Ch Pay Next S) mT (G (b₀.at (P7.put ((ED[P8]?).bind (·.dst)) (.tuple #[])) (.inRegion ED Ez::P9)) cs) w)
  (w:Zb) (hF:F w∧WgLive L.tWg Wg w):
  Goes P true (Ah L.tWg Wg S) DC0 (AtKdS P L.tWg Wg Ch Pay Next S) 40 (G ((base L.add).at ⟨#[.pointer (some ⟨Wg,0,none⟩),.int .i64 1,Ze,Ze,Ze,Ze,Ze,Ze,Ze,Ze,Ze,Ze,Ze,Ze,Ze,Ze,Ze,Ze,Ze,Ze,Ze,Ze,Ze,Ze,Ze,Ze,Ze,Ze,Ze,Ze,Ze,Ze,Ze,Ze,Ze,Ze,Ze,Ze,Ze,Ze,Ze,Ze,Ze,Ze,Ze,Ze,Ze,Ze,Ze,Ze,Ze,Ze,Ze,Ze,Ze,Ze,Ze,Ze,Ze,Ze,Ze,Ze,Ze,Ze,Ze,Ze,Ze,Ze,Ze,Ze,Ze,Ze,Ze,Ze,Ze,Ze,Ze,Ze,Ze,Ze,Ze,Ze,Ze,Ze,Ze,Ze,Ze,Ze,Ze,Ze,Ze,Ze,Ze,Ze,Ze,Ze,Ze,Ze,Ze,Ze,Ze,Ze,Ze,Ze,Ze,Ze,Ze,Ze,Ze,Ze,Ze,Ze,Ze,Ze,Ze,Ze,Ze],[]⟩ [.code (body_add L)]) (b₀.at P7 (.inRegion ED (P8::Ez)::P9)::cs)) w:=by
 lib_facts
 simp only[body_add,addFn,Zw]
 u_c Zn (Ab Ar) hF
 u_cond true (Ab Ar) hF
 u_c Zn (Ab Ar) hF
 u_c Zn (Ab Ar) hF
 u_reg (Ab Ar) hF
 u_op (Ab Ar) hF
 u_op (Ab Ar) hF
 u_c Zf (Ab Ar) hF
 u_cond false (Ab Ar) hF
 u_c ZL (Ab Ar) hF
 u_c Zn (Ab Ar) hF
 u_reg (Ab Ar) hF
 refine ZQ (fun w₁ BJ=>?_);replace hF:=Ab Ar hF BJ;clear BJ;refine⟨rfl,_,stepG_mark0 .disable (by simp) rfl rfl (by k_ne) rfl H.f_disable (x_disable_n L) (x_disable_b L) (x_disable_x L) (x_disable_f L),60,?_⟩
 walk_nrm
 repeat (first|u_c Zn (Ab Ar) hF|u_c Zf (Ab Ar) hF|u_c ZL (Ab Ar) hF|u_cond false (Ab Ar) hF|u_reg (Ab Ar) hF|u_op (Ab Ar) hF|u_defer (Ab Ar) hF|u_bub (Ab Ar) hF|u_call H.f_uAdd (nm_uAdd L) uAddFn (Ab Ar) hF)
 refine ZQ (fun w₂ Ce=>?_);replace hF:=Ab Ar hF Ce;clear Ce;refine⟨rfl,fun v hv hw=>?_⟩;rcases Yr v with rfl|hvp
 ·replace hw:WgAt L.tWg Wg w₂ 0 0:=by simpa using hw
  have z:(((0:Nat):Int)+1)*KK=KK:=by simp
  rw[z];have e0:IntKind.u64.wrap (0+4294967296)=KK:=by decide
  refine⟨_,(Zab rfl rfl (by k_ne) rfl H.f_addU64 (x_addU64_n L) (x_addU64_b L) (x_addU64_x L) .u64 (x_addU64_f L) rfl rfl hw.cellSt (hw.thaw 0)).trans (by rw[e0];rfl),fun _=>⟨150,?_⟩,fun h=>absurd rfl h⟩;replace hF:F (w₂.setCell (stA Wg) (.int .u64 KK))∧WgLive L.tWg Wg (w₂.setCell (stA Wg) (.int .u64 KK)):=⟨Ar.set _ _ _ rfl hF.1,⟨_,_,hw.setSt _⟩⟩;clear hw;simp only[KK]at hF⊢
  walk_nrm
  u_op (Ab Ar) hF
  u_c Zf (Ab Ar) hF
  u_c zO (Ab Ar) hF
  u_leave1 H.f_uAdd (Ab Ar) hF
  u_op (Ab Ar) hF
  u_c Zf (Ab Ar) hF
  (repeat u_c Zn (Ab Ar) hF)
  u_reg (Ab Ar) hF
  iterate 4 (u_op (Ab Ar) hF)
  u_skip (Ab Ar) hF
  u_skip (Ab Ar) hF
  u_op (Ab Ar) hF
  u_c Zf (Ab Ar) hF
  u_cond false (Ab Ar) hF
  u_c ZL (Ab Ar) hF
  (repeat u_c Zn (Ab Ar) hF)
  u_reg (Ab Ar) hF
  iterate 4 (u_op (Ab Ar) hF)
  u_c Zf (Ab Ar) hF
  (repeat u_c Zn (Ab Ar) hF)
  u_reg (Ab Ar) hF
  iterate 4 (u_op (Ab Ar) hF)
  u_c Zf (Ab Ar) hF
  (repeat u_c Zn (Ab Ar) hF)
  u_reg (Ab Ar) hF
  iterate 10 (u_op (Ab Ar) hF)
  u_c Zf (Ab Ar) hF
  u_cond true (Ab Ar) hF
  (repeat u_c Zn (Ab Ar) hF)
  u_reg (Ab Ar) hF
  iterate 3 (u_op (Ab Ar) hF)
  u_conv H.underlying_tPU32 H.room_tU32 (WgLive.cell1 hF.2).choose_spec (Ab Ar) hF
  refine ZQ (fun Cu ux=>?_);replace hF:=Ab Ar hF ux;clear ux;refine⟨rfl,_,stepG_markAt .read (by simp) rfl rfl (by k_ne) rfl H.f_raceRead (x_raceRead_n L) (x_raceRead_b L) (x_raceRead_x L) (x_raceRead_f L) (by simp[Act.eval,smA]),80,?_⟩
  walk_nrm
  u_c Zf (Ab Ar) hF
  (repeat u_c Zn (Ab Ar) hF)
  (repeat u_c Zn (Ab Ar) hF)
  u_reg (Ab Ar) hF
  u_op (Ab Ar) hF
  u_op (Ab Ar) hF
  u_c Zf (Ab Ar) hF
  u_cond false (Ab Ar) hF
  u_c ZL (Ab Ar) hF
  (repeat u_c Zn (Ab Ar) hF)
  u_reg (Ab Ar) hF
  iterate 3 (u_op (Ab Ar) hF)
  u_skip (Ab Ar) hF
  u_skip (Ab Ar) hF
  u_op (Ab Ar) hF
  u_op (Ab Ar) hF
  u_skip (Ab Ar) hF
  u_skip (Ab Ar) hF
  u_skip (Ab Ar) hF
  u_skip (Ab Ar) hF
  u_op (Ab Ar) hF
  u_c Zf (Ab Ar) hF
  u_cond false (Ab Ar) hF
  u_c ZL (Ab Ar) hF
  (repeat u_c Zn (Ab Ar) hF)
  u_reg (Ab Ar) hF
  iterate 3 (u_op (Ab Ar) hF)
  u_skip (Ab Ar) hF
  u_skip (Ab Ar) hF
  u_op (Ab Ar) hF
  u_c Zf (Ab Ar) hF
  u_cond true (Ab Ar) hF
  u_c zO (Ab Ar) hF
  refine ZQ (fun DL Fb=>?_);replace hF:=Ab Ar hF Fb;clear Fb;refine⟨rfl,_,stepG_unwind_entry (v:=.tuple #[]) (evs:= #[mk .enable]) rfl H.f_enable (x_enable_n L) (x_enable_b L) (x_enable_x L) (x_enable_f L) (by simp[Extern.Race.none_]) (by simp[mk]) (by simp[mk]),mT+1,?_⟩
  u_leave0 H.f_add (Ab Ar) hF
  exact hT _ hF.1 hF.2
 ·obtain⟨V,hV⟩:∃V:Int,V=(v:Int)+1:=⟨_,rfl⟩
  obtain⟨S',hS⟩:∃S':Int,S'=V*KK:=⟨_,rfl⟩;have eS:IntKind.u64.wrap ((v:Int)*KK+4294967296)=S':=by rw[IntKind.wrap_u64,hS,hV];simp only[KK];omega
  rw[←hV, ←hS];have a1:S' / 4294967296=V:=by rw[hS];simp only[KK];omega
  have b1:bits .and .u64 S' 2147483648=0:=by rw[hS,hV];have:=ZaX (v+1) 0 (by omega) (by omega);simpa[KK]using this
  have b2:bits .and .u64 S' 2147483647=0:=by rw[hS,hV];have:=Zas (v+1) 0 (by omega) (by omega);simpa[KK]using this
  have c1:IntKind.i32.wrap V=V:=by rw[Za1];omega
  have hV1:1<V:=by omega
  have eO:V<2147483648:=by omega
  have q1:(V==1)=false:=by simp;omega
  have q2:decide (V=1)=false:=decide_eq_false (by omega);have q3:decide (V<0)=false:=decide_eq_false (by omega);have q4:decide (0<V)=true:=decide_eq_true (by omega);have q5:(V==0)=false:=by simp;omega
  have q6:decide (V=0)=false:=decide_eq_false (by omega);refine⟨_,(Zab rfl rfl (by k_ne) rfl H.f_addU64 (x_addU64_n L) (x_addU64_b L) (x_addU64_x L) .u64 (x_addU64_f L) rfl rfl hw.cellSt (hw.thaw 0)).trans (by rw[eS];rfl),fun h=>absurd h (by omega),fun _=>⟨150,?_⟩⟩;replace hF:F (w₂.setCell (stA Wg) (.int .u64 S'))∧WgLive L.tWg Wg (w₂.setCell (stA Wg) (.int .u64 S')):=⟨Ar.set _ _ _ rfl hF.1,⟨_,_,hw.setSt _⟩⟩;clear hw hS hV eS
  walk_nrm
  u_op (Ab Ar) hF
  u_c Zf (Ab Ar) hF
  u_c zO (Ab Ar) hF
  u_leave1 H.f_uAdd (Ab Ar) hF
  u_op (Ab Ar) hF
  u_c Zf (Ab Ar) hF
  (repeat u_c Zn (Ab Ar) hF)
  u_reg (Ab Ar) hF
  iterate 4 (u_op (Ab Ar) hF)
  u_skip (Ab Ar) hF
  u_skip (Ab Ar) hF
  u_op (Ab Ar) hF
  u_c Zf (Ab Ar) hF
  u_cnd false (Ab Ar) hF
  u_c ZL (Ab Ar) hF
  (repeat u_c Zn (Ab Ar) hF)
  u_reg (Ab Ar) hF
  iterate 4 (u_op (Ab Ar) hF)
  u_c Zf (Ab Ar) hF
  (repeat u_c Zn (Ab Ar) hF)
  u_reg (Ab Ar) hF
  iterate 4 (u_op (Ab Ar) hF)
  u_c Zf (Ab Ar) hF
  (repeat u_c Zn (Ab Ar) hF)
  u_reg (Ab Ar) hF
  iterate 10 (u_op (Ab Ar) hF)
  u_c Zf (Ab Ar) hF
  u_cnd false (Ab Ar) hF
  u_c ZL (Ab Ar) hF
  (repeat u_c Zn (Ab Ar) hF)
  u_reg (Ab Ar) hF
  u_op (Ab Ar) hF
  u_op (Ab Ar) hF
  u_c Zf (Ab Ar) hF
  u_cnd false (Ab Ar) hF
  u_c ZL (Ab Ar) hF
  (repeat u_c Zn (Ab Ar) hF)
  u_reg (Ab Ar) hF
  iterate 3 (u_op (Ab Ar) hF)
  u_skip (Ab Ar) hF
  u_skip (Ab Ar) hF
  u_op (Ab Ar) hF
  u_op (Ab Ar) hF
  u_skip (Ab Ar) hF
  u_skip (Ab Ar) hF
  u_skip (Ab Ar) hF
  u_skip (Ab Ar) hF
  u_op (Ab Ar) hF
  u_c Zf (Ab Ar) hF
  u_cnd false (Ab Ar) hF
  u_c ZL (Ab Ar) hF
  (repeat u_c Zn (Ab Ar) hF)
  u_reg (Ab Ar) hF
  iterate 3 (u_op (Ab Ar) hF)
  u_skip (Ab Ar) hF
  u_skip (Ab Ar) hF
  u_op (Ab Ar) hF
  u_c Zf (Ab Ar) hF
  u_cnd true (Ab Ar) hF
  u_c zO (Ab Ar) hF
  refine ZQ (fun DL Fb=>?_);replace hF:=Ab Ar hF Fb;clear Fb;refine⟨rfl,_,stepG_unwind_entry (v:=.tuple #[]) (evs:= #[mk .enable]) rfl H.f_enable (x_enable_n L) (x_enable_b L) (x_enable_x L) (x_enable_f L) (by simp[Extern.Race.none_]) (by simp[mk]) (by simp[mk]),mT+1,?_⟩
  u_leave0 H.f_add (Ab Ar) hF
  exact hT _ hF.1 hF.2
end
theorem Qp {P:Zp}{main:Bool}{R:Zb→Zb→Prop}{D:Zb→Zb→Array ZU→Prop}{Stop:Zg→Zb→Prop}{n m:Nat}{g:Zg}{w:Zb}(h:Goes P main R D Stop n g w)(hn:n≤m):Goes P main R D Stop m g w:=by
 induction hn with
 |refl=>exact h
 |step _ ih=>exact ih.more
def U' (L:WgLink)(F:(Nat→Prop)→Zb→Prop)(Wg:Nat)(c:ZA)(cs:List ZA):B0:=fun S g w=>
 F8 L.tWg Wg S (F S)∧∃T:Array Zc,g=G ((base L.wait).at ⟨T,[]⟩ [.code (L7 L),.inLoop (L7 L),.inBlock 0]) (c::cs)∧T.size=84∧T[0]?=some (.pointer (some ⟨Wg,0,none⟩))∧F S w∧WgLive L.tWg Wg w
section
variable {L:WgLink}
theorem cm {P:Zp}(H:WgLib P L){Wg:Nat}{F:(Nat→Prop)→Zb→Prop}{Anch:B0}{b₀:ZA}{P7:Act}{ED:Array Oper}{P8:Nat}{Ez:List Nat}{P9:List Item}{cs:List ZA}{mT:Nat}
  (hT:∀S,F8 L.tWg Wg S (F S)→∀w,F S w→WgLive L.tWg Wg w→Goes P true (Ah L.tWg Wg S) DC0 (Anch S) mT (G (b₀.at (P7.put ((ED[P8]?).bind (·.dst)) (.tuple #[])) (.inRegion ED Ez::P9)) cs) w)
  (S:Nat→Prop) (g:Zg) (w:Zb) (h:U' L F Wg (b₀.at P7 (.inRegion ED (P8::Ez)::P9)) cs S g w):
  ∃m,Goes P true (Ah L.tWg Wg S) DC0 (AtW1 P L.tWg Wg Anch (U' L F Wg (b₀.at P7 (.inRegion ED (P8::Ez)::P9)) cs) S) m g w:=by
 lib_facts
 obtain⟨Ar,T,rfl,aj2,t0,hF⟩:=h;obtain⟨v0,v1,v2,v3,v4,v5,v6,v7,v8,v9,v10,v11,O3,O4,O5,O6,O7,O8,O9,O_,v20,O',Pa,Pb,Pc,Pd,Pe,Pf,Pg,Ph,v30,Pj,Pk,Pl,Pm,Pn,Po,TS,TU,TV,TW,Pp,v42,v43,v44,v45,v46,v47,v48,v49,v50,v51,v52,v53,v54,v55,v56,v57,v58,v59,v60,v61,v62,v63,v64,v65,v66,v67,v68,v69,v70,v71,v72,v73,v74,v75,v76,v77,v78,v79,v80,v81,v82,v83,rfl⟩:=array84 T aj2;simp only[ZY,ZN,ZI]at t0;subst t0;refine⟨40,?_⟩;simp only[L7,body_wait,waitFn,Zw]
 u_c stepG_block (Ab Ar) hF
 (repeat u_c Zn (Ab Ar) hF)
 u_reg (Ab Ar) hF
 iterate 3 (u_op (Ab Ar) hF)
 u_call H.f_uLoad (nm_uLoad L) uLoadFn (Ab Ar) hF
 (repeat u_c Zn (Ab Ar) hF)
 u_reg (Ab Ar) hF
 u_op (Ab Ar) hF
 u_c Zf (Ab Ar) hF
 (repeat u_c Zn (Ab Ar) hF)
 u_reg (Ab Ar) hF
 iterate 3 (u_op (Ab Ar) hF)
 refine ZQ (fun w₁ MT=>?_);replace hF:=Ab Ar hF MT;clear MT;refine⟨rfl,fun v hv hw=>?_⟩;rcases Yr v with rfl|hvp
 ·replace hw:WgAt L.tWg Wg w₁ 0 0:=by simpa using hw
  refine⟨_,stepG_load_atomic (v:=0) rfl rfl (by k_ne) rfl H.f_loadU64 (x_loadU64_n L) (x_loadU64_b L) (x_loadU64_x L) .u64 (x_loadU64_f L) rfl hw.cellSt,fun _=>⟨80,?_⟩,fun h=>absurd rfl h⟩;clear hw
  walk_nrm
  u_op (Ab Ar) hF
  u_c Zf (Ab Ar) hF
  u_c zO (Ab Ar) hF
  u_leave1 H.f_uLoad (Ab Ar) hF
  u_op (Ab Ar) hF
  u_c Zf (Ab Ar) hF
  (repeat u_c Zn (Ab Ar) hF)
  u_reg (Ab Ar) hF
  iterate 4 (u_op (Ab Ar) hF)
  u_c Zf (Ab Ar) hF
  (repeat u_c Zn (Ab Ar) hF)
  u_reg (Ab Ar) hF
  iterate 4 (u_op (Ab Ar) hF)
  u_c Zf (Ab Ar) hF
  (repeat u_c Zn (Ab Ar) hF)
  u_reg (Ab Ar) hF
  u_op (Ab Ar) hF
  u_op (Ab Ar) hF
  u_c Zf (Ab Ar) hF
  u_cond true (Ab Ar) hF
  (repeat u_c Zn (Ab Ar) hF)
  u_cond true (Ab Ar) hF
  (repeat u_c Zn (Ab Ar) hF)
  u_reg (Ab Ar) hF
  refine ZQ (fun qV Xh=>?_);replace hF:=Ab Ar hF Xh;clear Xh;refine⟨rfl,_,stepG_mark0 .enable (by simp) rfl rfl (by k_ne) rfl H.f_enable (x_enable_n L) (x_enable_b L) (x_enable_x L) (x_enable_f L),30,?_⟩
  walk_nrm
  u_c Zf (Ab Ar) hF
  u_reg (Ab Ar) hF
  u_op (Ab Ar) hF
  u_conv H.underlying_tWgP H.room_tWg (WgLive.cell0 hF.2).choose_spec (Ab Ar) hF
  refine ZQ (fun qW Xi=>?_);replace hF:=Ab Ar hF Xi;clear Xi;refine⟨rfl,_,stepG_markAt .acquire (by simp) rfl rfl (by k_ne) rfl H.f_acquire (x_acquire_n L) (x_acquire_b L) (x_acquire_x L) (x_acquire_f L) (by simp[Act.eval,stA]),mT+40,?_⟩
  walk_nrm
  u_c Zf (Ab Ar) hF
  (repeat u_c Zn (Ab Ar) hF)
  u_reg (Ab Ar) hF
  iterate 8 (u_op (Ab Ar) hF)
  u_skip (Ab Ar) hF
  u_skip (Ab Ar) hF
  u_op (Ab Ar) hF
  u_c Zf (Ab Ar) hF
  u_cond false (Ab Ar) hF
  u_c ZL (Ab Ar) hF
  u_c zO (Ab Ar) hF
  u_leave0 H.f_wait (Ab Ar) hF
  exact Qp (hT S Ar _ hF.1 hF.2) (by omega)
 ·obtain⟨S',hS⟩:∃S':Int,(v:Int)*KK=S':=⟨_,rfl⟩
  have a1:S' / 4294967296=(v:Int):=by rw[←hS];simp only[KK];omega
  have b1:bits .and .u64 S' 2147483648=0:=by rw[←hS];have:=ZaX v 0 (by omega) (by omega);simpa[KK]using this
  have b2:bits .and .u64 S' 2147483647=0:=by rw[←hS];have:=Zas v 0 (by omega) (by omega);simpa[KK]using this
  have c1:IntKind.i32.wrap (v:Int)=(v:Int):=by rw[Za1];omega
  have w1:IntKind.u64.wrap (S'+1)=S'+1:=by rw[IntKind.wrap_u64, ←hS];simp only[KK];omega
  have q3:decide ((v:Int)<0)=false:=decide_eq_false (by omega);have q4:decide (0<(v:Int))=true:=decide_eq_true (by omega);have q5:((v:Int)==0)=false:=by simp;omega
  have q6:decide ((v:Int)=0)=false:=decide_eq_false (by omega);rw[hS]at hw;refine⟨_,stepG_load_atomic (v:=S') rfl rfl (by k_ne) rfl H.f_loadU64 (x_loadU64_n L) (x_loadU64_b L) (x_loadU64_x L) .u64 (x_loadU64_f L) rfl hw.cellSt,fun h0=>absurd h0 (by omega),fun _=>⟨90,?_⟩⟩;clear hw
  walk_nrm
  u_op (Ab Ar) hF
  u_c Zf (Ab Ar) hF
  u_c zO (Ab Ar) hF
  u_leave1 H.f_uLoad (Ab Ar) hF
  u_op (Ab Ar) hF
  u_c Zf (Ab Ar) hF
  (repeat u_c Zn (Ab Ar) hF)
  u_reg (Ab Ar) hF
  iterate 4 (u_op (Ab Ar) hF)
  u_c Zf (Ab Ar) hF
  (repeat u_c Zn (Ab Ar) hF)
  u_reg (Ab Ar) hF
  iterate 4 (u_op (Ab Ar) hF)
  u_c Zf (Ab Ar) hF
  (repeat u_c Zn (Ab Ar) hF)
  u_reg (Ab Ar) hF
  u_op (Ab Ar) hF
  u_op (Ab Ar) hF
  u_c Zf (Ab Ar) hF
  u_cnd false (Ab Ar) hF
  u_c ZL (Ab Ar) hF
  (repeat u_c Zn (Ab Ar) hF)
  u_reg (Ab Ar) hF
  iterate 6 (u_op (Ab Ar) hF)
  u_call H.f_uCas (nm_uCas L) uCasFn (Ab Ar) hF
  (repeat u_c Zn (Ab Ar) hF)
  u_reg (Ab Ar) hF
  u_op (Ab Ar) hF
  u_c Zf (Ab Ar) hF
  (repeat u_c Zn (Ab Ar) hF)
  u_reg (Ab Ar) hF
  iterate 5 (u_op (Ab Ar) hF)
  refine ZQ (fun w₂ Xj=>?_);replace hF:=Ab Ar hF Xj;clear Xj;refine⟨rfl,fun v' gM hw=>⟨fun e=>?_,fun e=>?_⟩⟩
  ·subst e
   rw[hS]at hw⊢;refine⟨_,(stepG_cas_hit (v:=S') (n:=S'+1) rfl rfl (by k_ne) rfl H.f_casU64 (x_casU64_n L) (x_casU64_b L) (x_casU64_x L) .u64 (x_casU64_f L) rfl rfl rfl hw.cellSt (hw.thaw 0)).trans (by rfl),60,?_⟩;replace hF:F S (w₂.setCell (stA Wg) (.int .u64 (S'+1)))∧WgLive L.tWg Wg (w₂.setCell (stA Wg) (.int .u64 (S'+1))):=⟨Ar.set _ _ _ rfl hF.1,⟨_,_,hw.setSt _⟩⟩;clear hw
   walk_nrm
   u_op (Ab Ar) hF
   u_c Zf (Ab Ar) hF
   u_c zO (Ab Ar) hF
   u_leave1 H.f_uCas (Ab Ar) hF
   u_c Zf (Ab Ar) hF
   u_cond true (Ab Ar) hF
   (repeat u_c Zn (Ab Ar) hF)
   u_reg (Ab Ar) hF
   iterate 4 (u_op (Ab Ar) hF)
   u_c Zf (Ab Ar) hF
   u_cond true (Ab Ar) hF
   u_reg (Ab Ar) hF
   iterate 3 (u_op (Ab Ar) hF)
   u_conv H.underlying_tPU32 H.room_tU32 (WgLive.cell1 hF.2).choose_spec (Ab Ar) hF
   refine ZQ (fun Cu lY=>?_);replace hF:=Ab Ar hF lY;clear lY;refine⟨rfl,_,stepG_markAt .write (by simp) rfl rfl (by k_ne) rfl H.f_raceWrite (x_raceWrite_n L) (x_raceWrite_b L) (x_raceWrite_x L) (x_raceWrite_f L) (by simp[Act.eval,smA]),60,?_⟩
   walk_nrm
   u_c Zf (Ab Ar) hF
   (repeat u_c Zn (Ab Ar) hF)
   u_reg (Ab Ar) hF
   u_op (Ab Ar) hF
   u_c Zf (Ab Ar) hF
   (repeat u_c Zn (Ab Ar) hF)
   u_reg (Ab Ar) hF
   iterate 4 (u_op (Ab Ar) hF)
   u_skip (Ab Ar) hF
   u_op (Ab Ar) hF
   u_c Zf (Ab Ar) hF
   u_cond false (Ab Ar) hF
   u_c ZL (Ab Ar) hF
   (repeat u_c Zn (Ab Ar) hF)
   u_reg (Ab Ar) hF
   iterate 4 (u_op (Ab Ar) hF)
   refine ZQ (fun DL Xk=>?_);replace hF:=Ab Ar hF Xk;clear Xk;refine⟨rfl,rfl,fun⟨st,hw⟩=>stepG_semacquire_wait rfl rfl rfl H.f_semacquire (x_semacquire_n L) (x_semacquire_b L) (x_semacquire_x L) (x_semacquire_f L) (by simp[Act.eval,smA]) hw.cellSm,fun hf=>?_⟩;refine⟨_,(stepG_semacquire (n:=1) rfl rfl (by k_ne) rfl H.f_semacquire (x_semacquire_n L) (x_semacquire_b L) (x_semacquire_x L) (x_semacquire_f L) (by simp[Act.eval,smA]) hf.cellSm (by k_ne) (hf.thaw 1)).trans (by rfl),50,?_⟩;replace hF:F S (DL.setCell (smA Wg) (.int .u32 0))∧WgLive L.tWg Wg (DL.setCell (smA Wg) (.int .u32 0)):=⟨Ar.set _ _ _ rfl hF.1,⟨_,_,hf.setSm 0⟩⟩;clear hf
   walk_nrm
   u_c Zf (Ab Ar) hF
   (repeat u_c Zn (Ab Ar) hF)
   u_reg (Ab Ar) hF
   iterate 3 (u_op (Ab Ar) hF)
   u_call H.f_uLoad (nm_uLoad L) uLoadFn (Ab Ar) hF
   (repeat u_c Zn (Ab Ar) hF)
   u_reg (Ab Ar) hF
   u_op (Ab Ar) hF
   u_c Zf (Ab Ar) hF
   (repeat u_c Zn (Ab Ar) hF)
   u_reg (Ab Ar) hF
   iterate 3 (u_op (Ab Ar) hF)
   refine ZQ (fun Km uy=>?_);replace hF:=Ab Ar hF uy;clear uy;refine⟨rfl,fun hw=>⟨_,stepG_load_atomic (v:=0) rfl rfl (by k_ne) rfl H.f_loadU64 (x_loadU64_n L) (x_loadU64_b L) (x_loadU64_x L) .u64 (x_loadU64_f L) rfl hw.cellSt,40,?_⟩⟩;clear hw
   walk_nrm
   u_op (Ab Ar) hF
   u_c Zf (Ab Ar) hF
   u_c zO (Ab Ar) hF
   u_leave1 H.f_uLoad (Ab Ar) hF
   u_op (Ab Ar) hF
   u_op (Ab Ar) hF
   u_c Zf (Ab Ar) hF
   (repeat u_c Zn (Ab Ar) hF)
   u_cond true (Ab Ar) hF
   (repeat u_c Zn (Ab Ar) hF)
   u_reg (Ab Ar) hF
   refine ZQ (fun qV Xh=>?_);replace hF:=Ab Ar hF Xh;clear Xh;refine⟨rfl,_,stepG_mark0 .enable (by simp) rfl rfl (by k_ne) rfl H.f_enable (x_enable_n L) (x_enable_b L) (x_enable_x L) (x_enable_f L),30,?_⟩
   walk_nrm
   u_c Zf (Ab Ar) hF
   u_reg (Ab Ar) hF
   u_op (Ab Ar) hF
   u_conv H.underlying_tWgP H.room_tWg (WgLive.cell0 hF.2).choose_spec (Ab Ar) hF
   refine ZQ (fun qW Xi=>?_);replace hF:=Ab Ar hF Xi;clear Xi;refine⟨rfl,_,stepG_markAt .acquire (by simp) rfl rfl (by k_ne) rfl H.f_acquire (x_acquire_n L) (x_acquire_b L) (x_acquire_x L) (x_acquire_f L) (by simp[Act.eval,stA]),mT+40,?_⟩
   walk_nrm
   u_c Zf (Ab Ar) hF
   (repeat u_c Zn (Ab Ar) hF)
   u_reg (Ab Ar) hF
   u_op (Ab Ar) hF
   u_c Zf (Ab Ar) hF
   u_cond false (Ab Ar) hF
   u_c ZL (Ab Ar) hF
   u_c zO (Ab Ar) hF
   u_leave0 H.f_wait (Ab Ar) hF
   exact Qp (hT S Ar _ hF.1 hF.2) (by omega)
  ·refine⟨_,stepG_cas_miss (v:=(v':Int)*KK) (old:=S') (n:=S'+1) rfl rfl (by k_ne) rfl H.f_casU64 (x_casU64_n L) (x_casU64_b L) (x_casU64_x L) .u64 (x_casU64_f L) rfl rfl rfl hw.cellSt (hw.thaw 0) (by rw[←hS];simp only[KK];omega),30,?_⟩
   clear hw
   walk_nrm
   u_op (Ab Ar) hF
   u_c Zf (Ab Ar) hF
   u_c zO (Ab Ar) hF
   u_leave1 H.f_uCas (Ab Ar) hF
   u_c Zf (Ab Ar) hF
   u_cond false (Ab Ar) hF
   u_c ZL (Ab Ar) hF
   u_c stepG_inBlock (Ab Ar) hF
   u_c stepG_inLoop (Ab Ar) hF
   refine ZQ (fun DL Fb=>?_);replace hF:=Ab Ar hF Fb;exact⟨Ar,_,rfl,by simp,by simp,hF⟩
theorem cr {P:Zp}(H:WgLib P L){Wg:Nat}{F:(Nat→Prop)→Zb→Prop}{S:Nat→Prop}(Ar:F8 L.tWg Wg S (F S)){b₀:ZA}{P7:Act}{ED:Array Oper}{P8:Nat}{Ez:List Nat}{P9:List Item}{cs:List ZA}(w:Zb)(hF:F S w∧WgLive L.tWg Wg w):
  Goes P true (Ah L.tWg Wg S) DC0 (AtKd P L.tWg Wg (U' L F Wg (b₀.at P7 (.inRegion ED (P8::Ez)::P9)) cs) S) 10
   (G ((base L.wait).at ⟨#[.pointer (some ⟨Wg,0,none⟩),Ze,Ze,Ze,Ze,Ze,Ze,Ze,Ze,Ze,Ze,Ze,Ze,Ze,Ze,Ze,Ze,Ze,Ze,Ze,Ze,Ze,Ze,Ze,Ze,Ze,Ze,Ze,Ze,Ze,Ze,Ze,Ze,Ze,Ze,Ze,Ze,Ze,Ze,Ze,Ze,Ze,Ze,Ze,Ze,Ze,Ze,Ze,Ze,Ze,Ze,Ze,Ze,Ze,Ze,Ze,Ze,Ze,Ze,Ze,Ze,Ze,Ze,Ze,Ze,Ze,Ze,Ze,Ze,Ze,Ze,Ze,Ze,Ze,Ze,Ze,Ze,Ze,Ze,Ze,Ze,Ze,Ze,Ze],[]⟩ [.code (body_wait L)]) (b₀.at P7 (.inRegion ED (P8::Ez)::P9)::cs)) w:=by
 lib_facts
 simp only[body_wait,waitFn,Zw]
 (repeat u_c Zn (Ab Ar) hF)
 u_cond true (Ab Ar) hF
 u_reg (Ab Ar) hF
 refine ZQ (fun w₁ MT=>?_);replace hF:=Ab Ar hF MT;clear MT;refine⟨rfl,_,stepG_mark0 .disable (by simp) rfl rfl (by k_ne) rfl H.f_disable (x_disable_n L) (x_disable_b L) (x_disable_x L) (x_disable_f L),20,?_⟩
 walk_nrm
 u_c Zf (Ab Ar) hF
 u_c stepG_block (Ab Ar) hF
 u_c stepG_loop (Ab Ar) hF
 exact ZQ (fun w₂ Ce=>⟨Ar,_,rfl,by simp,by simp,Ab Ar hF Ce⟩)
end
end Go.Pair
