-- Printed by gen.py and its programs for this claim.
import Derived.Test.YteojcbbifacpnaaGreatDoorGFnExactReadLinex0
import Derived.Test.YteojcbbifacpnaaGreatDoorGFnExactReadLinex1
import Derived.Test.YteojcbbifacpnaaGreatDoorZFnExactReadLine
namespace Go.Proofs.YteojcbbifacpnaaGreatDoor.GFnExactReadLine
open Go.RowKit Go.Proofs.YteojcbbifacpnaaGreatDoorW.PrintWords Go.Proofs.YteojcbbifacpnaaGreatDoorW.PrintLast Go.Proofs.YteojcbbifacpnaaGreatDoorW.PrintMore Go.Proofs.YteojcbbifacpnaaGreatDoorW.Zs
set_option maxHeartbeats 40000000
set_option maxRecDepth 100000
attribute [local go_sem] zL qL xN zN qK xK xL jL
set_option linter.unusedVariables false
set_option linter.unusedSimpArgs false
def kH.l0:Nat→ByteArray→Int→Int→Option (Int)
 |0,_,_,_=>none
 |k+1,x0,x3,x4=>if x4<(x0.size:Int)then(if 0≤x4 then(if(bt x0 x4)=32 then(kH.l0 k x0 (wrap64 (x3*10)) (wrap64 (x4+1)))else((jI.f (bt x0 x4)).bind fun t270=>(if t270=true then(kH.l0 k x0 (wrap64 ((wrap64 (x3*10))+(((bt x0 x4)-48)%256))) (wrap64 (x4+1)))else(some (-1)))))else(none))else(some x3)
def kH.f (k:Nat) (a0:ByteArray):Option (Int):=kH.l0 k a0 0 0
theorem kH.calls (k:Nat) (a0:ByteArray) (r:Int) (w:World) (h:kH.f k a0=some r):
  Calls Tryz.prog 78 #[.string a0] w fun e w'=>e= .returned (.int .i64 r)∧wI w w':=by
 have H:(kH.l0 k a0 0 0)=some r:=h;clear h;have H':=am_ H;clear H;go_enter Tryz.func78,Tryz.ntmps78
 go_wp2
 go_loopg [3,4] k (fun kq v3 v4 w'=> ∃(x3_1 x4_1:Int),v3= .int .i64 x3_1∧v4= .int .i64 x4_1∧wA (kH.l0 kq a0 x3_1 x4_1=some r)∧wA (kq≤k)∧wI w w')
 case atStart=>exact⟨(0),(0),vB,vB,H',⟨Nat.le_refl _⟩,zz4⟩
 case round=>
  clear H';obtain⟨x3_1,x4_1,rfl,rfl,HA,HK1,⟨m1,rfl⟩⟩:=hrel
  cases gk with
  |zero=>exact absurd HA.out (by simp[kH.l0])
  |succ k1=>
   have H:=HA.out;clear HA;simp only[kH.l0]at H
   by_cases c2:x4_1<(a0.size:Int)
   ·rw[if_pos c2]at H;have c2b0:=dt_ c2;clear c2
    by_cases c3:0≤x4_1
    ·rw[if_pos c3]at H;have c3b0:=dt_ c3;clear c3
     by_cases c5:(bt a0 x4_1)=32
     ·rw[if_pos c5]at H;have c5b0:((bt a0 x4_1)==32)=true:=beq_iff_eq.mpr c5;have c5b1:((bt a0 x4_1)!=32)=false:=bne_eq_false_iff_eq.mpr c5;clear c5;have H':=am_ H;clear H;have p4:0≤(x4_1:Int):=od_ zz5;have q4:x4_1<(a0.size:Int):=od_ zz5;have hx4:=wP a0 x4_1;replace p4:=eq_true p4;replace q4:=eq_true q4;go_wp2
      go_roundg k1
      (case measure=>have:=HK1.out;omega);case rel=>exact⟨(wrap64 (x3_1*10)),(wrap64 (x4_1+1)),vB,vB,H',⟨aJ5⟩,zz4⟩
     ·rw[if_neg c5]at H;have c5b0:((bt a0 x4_1)==32)=false:=beq_eq_false_iff_ne.mpr c5;have c5b1:((bt a0 x4_1)!=32)=true:=bne_iff_ne.mpr c5;replace H:=be_ H;obtain⟨t270,A70,H⟩:=H;(try dsimp only at H);have A7:=am_ A70;clear A70;have HC8:=am_ H;clear H;have p4:0≤(x4_1:Int):=od_ zz5;have q4:x4_1<(a0.size:Int):=od_ zz5;have hx4:=wP a0 x4_1;replace p4:=eq_true p4;replace q4:=eq_true q4;have p6:0≤(x4_1:Int):=od_ zz5;have q6:x4_1<(a0.size:Int):=od_ zz5;have hx6:=wP a0 x4_1;replace p6:=eq_true p6;replace q6:=eq_true q6;go_upto_if 21 with(first|((with_reducible refine zB (f:=79) rfl ?_);refine jG 20 Tryz.func79 #[.int .u8 (bt a0 x4_1)] (jI.calls (bt a0 x4_1) t270 _ A7.out) ?_;rintro w' ⟨nd,rfl⟩))
      (try simp only[Act.put,List.setIfInBounds_toArray,List.set_cons_zero,List.set_cons_succ]);have H:=HC8.out;clear HC8
      by_cases c9:t270=true
      ·subst c9;rw[if_pos rfl]at H;have H':=am_ H;clear H;have p10:0≤(x4_1:Int):=od_ zz5;have q10:x4_1<(a0.size:Int):=od_ zz5;have hx10:=wP a0 x4_1;replace p10:=eq_true p10;replace q10:=eq_true q10;go_wp2
       go_roundg k1
       (case measure=>have:=HK1.out;omega);case rel=>exact⟨(wrap64 ((wrap64 (x3_1*10))+(((bt a0 x4_1)-48)%256))),(wrap64 (x4_1+1)),vB,vB,H',⟨aJ5⟩,zz4⟩
      ·replace c9:=bf_ c9;subst c9;rw[if_neg ft_]at H;obtain rfl:=si_ H;go_wp2
       go_ret;exact⟨vB,zz4⟩
    ·rw[if_neg c3]at H;exact absurd H (by simp)
   ·rw[if_neg c2]at H;have c2b0:=df_ c2;clear c2;obtain rfl:=si_ H;go_wp2
    go_ret;exact⟨vB,zz4⟩
end Go.Proofs.YteojcbbifacpnaaGreatDoor.GFnExactReadLine
