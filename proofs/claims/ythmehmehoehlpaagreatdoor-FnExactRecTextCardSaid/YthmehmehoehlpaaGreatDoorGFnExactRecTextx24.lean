-- Printed by gen.py and its programs for this claim.
import Derived.Test.YthmehmehoehlpaaGreatDoorGFnExactRecTextx0
import Derived.Test.YthmehmehoehlpaaGreatDoorGFnExactRecTextx20
import Derived.Test.YthmehmehoehlpaaGreatDoorGFnExactRecTextx23
import Derived.Test.YthmehmehoehlpaaGreatDoorZFnExactRecText
namespace Go.Proofs.YthmehmehoehlpaaGreatDoor.GFnExactRecText
open Go.RowKit Go.Proofs.YthmehmehoehlpaaGreatDoorW.PrintWords Go.Proofs.YthmehmehoehlpaaGreatDoorW.PrintLast Go.Proofs.YthmehmehoehlpaaGreatDoorW.PrintMore Go.Proofs.YthmehmehoehlpaaGreatDoorW.Zs
set_option maxHeartbeats 40000000
set_option maxRecDepth 100000
attribute [local go_sem] max2_int min2_int max_two min_two max_three min_three max_four min_four
set_option linter.unusedVariables false
set_option linter.unusedSimpArgs false
def slices_Index_string_string.l0:Nat→List ByteArray→ByteArray→Int→Int→Option (Int)
 |0,_,_,_,_=>none
 |k+1,x0,x1,x2,x3=>if x3<x2 then(if 0≤x3 then(if x3<(x0.length:Int)then(if x1.toList=(rdOf ByteArray.empty x0 x3).toList then(some x3)else(slices_Index_string_string.l0 k x0 x1 x2 (wrap64 (x3+1))))else(none))else(none))else(some (-1))
def slices_Index_string_string.f (k:Nat) (l0:List ByteArray) (a0:ByteArray):Option (Int):=slices_Index_string_string.l0 k l0 a0 (l0.length:Int) 0
theorem slices_Index_string_string.calls (k:Nat) (A0:Option Addr) (c0:Nat) (l0:List ByteArray) (a0:ByteArray) (r:Int) (w:World) (h0:Kd.C Kd.string w A0 l0.length l0) (hc0:l0.length≤c0) (H:slices_Index_string_string.f k l0 a0=some r):
  Calls Tryz.prog 172 #[.slice A0 l0.length c0,.string a0] w fun e w'=>e= .returned (.int .i64 r)∧Drawn0 w w':=by
 have HR0:=Aside0.mk h0;have C0:=Aside0.mk hc0;clear h0 hc0;unfold slices_Index_string_string.f at H;have H':=Aside0.mk H;clear H;go_enter Tryz.func172,Tryz.ntmps172
 go_wp2
 go_loopg [8] k (fun kq v0 w'=> ∃(x0:Int),v0= .int .i64 x0∧Aside0 (slices_Index_string_string.l0 kq l0 a0 (l0.length:Int) x0=some r)∧Aside0 (kq≤k)∧Drawn0 w w')
 case atStart=>exact⟨(0),zr_,H',⟨Nat.le_refl _⟩,zd_⟩
 case round=>
  clear H';(try clear c1);(try clear p0);obtain⟨x0,rfl,HA,K0,⟨m1,rfl⟩⟩:=hrel
  cases gk with
  |zero=>exact absurd HA.out (by simp[slices_Index_string_string.l0])
  |succ k0=>
   have H:=HA.out;clear HA;simp only[slices_Index_string_string.l0]at H
   by_cases c2:x0<(l0.length:Int)
   ·rw[if_pos c2]at H;have f0:=decide_eq_true c2;clear c2
    replace H:=ifS_ H;obtain⟨c3,H⟩:=H;have f1:=decide_eq_true c3;clear c3
    replace H:=ifS_ H;obtain⟨c4,H⟩:=H;have f2:=decide_eq_true c4;clear c4
    by_cases c5:a0.toList=(rdOf ByteArray.empty l0 x0).toList
    ·rw[if_pos c5]at H;obtain⟨f3,f4⟩:=bqT_ c5;clear c5;obtain rfl:=Option.some.inj H;have p1:0≤(x0:Int):=of_decide_eq_true za_;have q0:x0<(l0.length:Int):=of_decide_eq_true za_;obtain⟨d0,e0,h1⟩:=Kd.at_string HR0.out x0 p1 q0;cases e0;replace p1:=eq_true p1;replace q0:=eq_true q0;go_wp2
     go_ret;exact⟨zr_,zd_⟩
    ·rw[if_neg c5]at H;obtain⟨f3,f4⟩:=bqF_ c5;have H':=Aside0.mk H;clear H;have p1:0≤(x0:Int):=of_decide_eq_true za_;have q0:x0<(l0.length:Int):=of_decide_eq_true za_;obtain⟨d0,e0,h1⟩:=Kd.at_string HR0.out x0 p1 q0;cases e0;replace p1:=eq_true p1;replace q0:=eq_true q0;go_wp2
     go_roundg k0
     (case measure=>have:=K0.out;omega);case rel=>exact⟨(wrap64 (x0+1)),zr_,H',⟨zz4⟩,zd_⟩
   ·rw[if_neg c2]at H;have f0:=decide_eq_false c2;clear c2;obtain rfl:=Option.some.inj H;go_wp2
    go_ret;exact⟨zr_,zd_⟩
def slices_Contains_string_string.f (k:Nat) (l0:List ByteArray) (a0:ByteArray):Option (Bool):=(slices_Index_string_string.f k l0 a0).bind fun t0=>(some (decide (t0≥0)))
theorem slices_Contains_string_string.calls (k:Nat) (A0:Option Addr) (c0:Nat) (l0:List ByteArray) (a0:ByteArray) (r:Bool) (w:World) (h0:Kd.C Kd.string w A0 l0.length l0) (hc0:l0.length≤c0) (H:slices_Contains_string_string.f k l0 a0=some r):
  Calls Tryz.prog 159 #[.slice A0 l0.length c0,.string a0] w fun e w'=>e= .returned (.bool r)∧Drawn0 w w':=by
 have HR0:=Aside0.mk h0;have C0:=Aside0.mk hc0;clear h0 hc0;unfold slices_Contains_string_string.f at H;replace H:=bS_ H;obtain⟨t0,A1,H⟩:=H;(try dsimp only at H);obtain rfl:=Option.some.inj H;go_enter Tryz.func159,Tryz.ntmps159
 go_wp2_with (first|((with_reducible refine gc_ 172 rfl ?_);refine gR 7 Tryz.func172 (slices_Index_string_string.calls k _ _ l0 a0 t0 _ (by repeat(first|exact HR0.out|(with_reducible refine Kd.C_alloc ?_ _)|(with_reducible refine Kd.C_drewN ?_ _)|(with_reducible refine Kd.C_drew ?_))) C0.out A1.out) ?_;rintro w' ⟨nd,rfl⟩))
 go_ret;exact⟨zr_,zd_⟩
def impl_all__impl_isHost_1.l0:Nat→ByteArray→Int→Option (Bool)
 |0,_,_=>none
 |k+1,x0,x1=>if x1<(x0.size:Int)then(if 0≤x1 then((impl_isHost_1.f (bt x0 x1)).bind fun t0=>(if t0=true then(impl_all__impl_isHost_1.l0 k x0 (wrap64 (x1+1)))else(some false)))else(none))else(some true)
def impl_all__impl_isHost_1.f (k:Nat) (a0:ByteArray):Option (Bool):=impl_all__impl_isHost_1.l0 k a0 0
theorem impl_all__impl_isHost_1.calls (k:Nat) (a0:ByteArray) (r:Bool) (w:World) (H:impl_all__impl_isHost_1.f k a0=some r):
  Calls Tryz.prog 83 #[.string a0,.func (.func 156) #[] #[]] w fun e w'=>e= .returned (.bool r)∧Drawn0 w w':=by
 unfold impl_all__impl_isHost_1.f at H;have H':=Aside0.mk H;clear H;go_enter Tryz.func83,Tryz.ntmps83
 go_wp2
 go_loopg [5] k (fun kq v0 w'=> ∃(x0:Int),v0= .int .i64 x0∧Aside0 (impl_all__impl_isHost_1.l0 kq a0 x0=some r)∧Aside0 (kq≤k)∧Drawn0 w w')
 case atStart=>exact⟨(0),zr_,H',⟨Nat.le_refl _⟩,zd_⟩
 case round=>
  clear H';obtain⟨x0,rfl,HA,K0,⟨m1,rfl⟩⟩:=hrel
  cases gk with
  |zero=>exact absurd HA.out (by simp[impl_all__impl_isHost_1.l0])
  |succ k0=>
   have H:=HA.out;clear HA;simp only[impl_all__impl_isHost_1.l0]at H
   by_cases c0:x0<(a0.size:Int)
   ·rw[if_pos c0]at H;have f0:=decide_eq_true c0;clear c0
    replace H:=ifS_ H;obtain⟨c1,H⟩:=H;have f1:=decide_eq_true c1;clear c1;replace H:=bS_ H;obtain⟨t0,A0,H⟩:=H;(try dsimp only at H);have C0:=Aside0.mk H;clear H;have p0:0≤(x0:Int):=of_decide_eq_true za_;have q0:x0<(a0.size:Int):=of_decide_eq_true za_;have h0:=bt_at a0 x0;replace p0:=eq_true p0;replace q0:=eq_true q0;go_upto_if 17 with(first|(go_at_call 156;(with_reducible refine(impl_isHost_1.calls (bt a0 x0) t0 _ A0.out).mono ?_);rintro e w' ⟨rfl,⟨nd,rfl⟩⟩))
    (try simp only[Act.put,List.setIfInBounds_toArray,List.set_cons_zero,List.set_cons_succ]);have H:=C0.out;clear C0
    by_cases c2:t0=true
    ·subst c2;rw[if_pos rfl]at H;have H':=Aside0.mk H;clear H;go_wp2
     go_roundg k0
     (case measure=>have:=K0.out;omega);case rel=>exact⟨(wrap64 (x0+1)),zr_,H',⟨zz4⟩,zd_⟩
    ·replace c2:=Bool.eq_false_iff.mpr c2;subst c2;rw[if_neg Bool.false_ne_true]at H;obtain rfl:=Option.some.inj H;go_wp2
     go_ret;exact⟨zr_,zd_⟩
   ·rw[if_neg c0]at H;have f0:=decide_eq_false c0;clear c0;obtain rfl:=Option.some.inj H;go_wp2
    go_ret;exact⟨zr_,zd_⟩
def impl_isHost.j0:Nat→ByteArray→Bool→Option (Bool)
 |0,_,_=>none
 |k+1,x0,x1=>if x1=true then(some false)else((strings_Split.f x0 (⟨#[46]⟩:ByteArray)).bind fun t0=>((slices_Contains_string_string.f k t0 (⟨#[]⟩:ByteArray)).bind fun t1=>(some (!t1))))
def impl_isHost.f (k:Nat) (a0:ByteArray):Option (Bool):=(impl_within.f (a0.size:Int) 1 60).bind fun t0=>(if t0=true then((impl_all__impl_isHost_1.f k a0).bind fun t1=>(impl_isHost.j0 k a0 (!t1)))else(impl_isHost.j0 k a0 true))
theorem impl_isHost.calls (k:Nat) (a0:ByteArray) (r:Bool) (w:World) (hG:Gl w) (H:impl_isHost.f k a0=some r):
  Calls Tryz.prog 134 #[.string a0] w fun e w'=>e= .returned (.bool r)∧Below w.heap.size w w':=by
 have HG:=Aside0.mk hG;clear hG;have HB:=Aside0.mk (Below.refl w.heap.size w);unfold impl_isHost.f at H;have C0:=Aside0.mk H;clear H;go_enter Tryz.func134,Tryz.ntmps134
 go_upto_region 1 with(fail)
 go_cut [11] (fun v0 wc=> ∃(kq:Nat) (x0:Bool),v0= .bool x0∧Aside0 (impl_isHost.j0 kq a0 x0=some r)∧Aside0 (kq≤k)∧Aside0 (Below w.heap.size w wc))
 case first=>
  have H:=C0.out;clear C0;replace H:=bS_ H;obtain⟨t0,A0,H⟩:=H;(try dsimp only at H)
  by_cases c0:t0=true
  ·subst c0;rw[if_pos rfl]at H;replace H:=bS_ H;obtain⟨t1,A1,H⟩:=H;(try dsimp only at H);have H':=Aside0.mk H;clear H;go_wp2_with (first|((with_reducible refine gc_ 21 rfl ?_);refine gR 5 Tryz.func21 (impl_within.calls (a0.size:Int) 1 60 true _ A0.out) ?_;rintro w' ⟨nd,rfl⟩)|(go_at_call 83;(with_reducible refine(impl_all__impl_isHost_1.calls k a0 t1 _ A1.out).mono ?_);rintro e w' ⟨rfl,⟨nd,rfl⟩⟩))
   go_meet
   case rel=>exact⟨_,(!t1),zr_,H',⟨zo_⟩,⟨zb_⟩⟩
  ·replace c0:=Bool.eq_false_iff.mpr c0;subst c0;rw[if_neg Bool.false_ne_true]at H;have H':=Aside0.mk H;clear H;go_wp2_with (first|((with_reducible refine gc_ 21 rfl ?_);refine gR 5 Tryz.func21 (impl_within.calls (a0.size:Int) 1 60 false _ A0.out) ?_;rintro w' ⟨nd,rfl⟩))
   go_meet
   case rel=>exact⟨_,(true),zr_,H',⟨zo_⟩,⟨zb_⟩⟩
 case rest=>
  clear C0;(try clear c1);(try clear c2);(try clear p0);(try clear c0);obtain⟨kq,x0,rfl,HA,J0,HB⟩:=hcut
  cases kq with
  |zero=>exact absurd HA.out (by simp[impl_isHost.j0])
  |succ k0=>
   have H:=HA.out;clear HA;simp only[impl_isHost.j0]at H
   by_cases c3:x0=true
   ·subst c3;rw[if_pos rfl]at H;obtain rfl:=Option.some.inj H;go_wp2
    go_ret;exact⟨ze_,zb_⟩
   ·replace c3:=Bool.eq_false_iff.mpr c3;subst c3;rw[if_neg Bool.false_ne_true]at H;replace H:=bS_ H;obtain⟨t2,A2,H⟩:=H;(try dsimp only at H);replace H:=bS_ H;obtain⟨t3,A3,H⟩:=H;(try dsimp only at H);obtain rfl:=Option.some.inj H;go_wp2_with (first|((with_reducible refine gc_ 131 rfl ?_);refine gV 13 Tryz.func131 (strings_Split.calls a0 (⟨#[46]⟩:ByteArray) t2 _ (Gl.below HG.out zb_) A2.out) ?_;rintro v1 w0 ⟨h0,hb⟩;have O0:=Aside0.mk (Kd.R_lower h0 (below_size zb_));replace HB:=Aside0.mk (below_step zb_ hb);(try clear hb);(try clear h0);obtain⟨a1,o0,e0⟩:=Kd.R_slice O0.out;subst e0)|((with_reducible refine gc_ 159 rfl ?_);refine gR 14 Tryz.func159 (slices_Contains_string_string.calls k0 _ _ t2 (⟨#[]⟩:ByteArray) t3 _ zz11 ((Kd.R_reads' O0.out).2.1) A3.out) ?_;rintro w' ⟨nd,rfl⟩))
    go_ret;exact⟨ze_,zb_⟩
end Go.Proofs.YthmehmehoehlpaaGreatDoor.GFnExactRecText
