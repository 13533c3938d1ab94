-- Printed by gen.py and its programs for this claim.
import Derived.Test.YteojcbbifacpnaaGreatDoorGFnExactClosestx0
import Derived.Test.YteojcbbifacpnaaGreatDoorGFnExactClosestx17
import Derived.Test.YteojcbbifacpnaaGreatDoorGFnExactClosestx18
import Derived.Test.YteojcbbifacpnaaGreatDoorGFnExactClosestx23
import Derived.Test.YteojcbbifacpnaaGreatDoorZFnExactClosest
namespace Go.Proofs.YteojcbbifacpnaaGreatDoor.GFnExactClosest
open Go.RowKit Go.Proofs.YteojcbbifacpnaaGreatDoorW.PrintWords Go.Proofs.YteojcbbifacpnaaGreatDoorW.PrintLast Go.Proofs.YteojcbbifacpnaaGreatDoorW.PrintMore Go.Proofs.YteojcbbifacpnaaGreatDoorW.Zs
set_option maxHeartbeats 40000000
set_option maxRecDepth 100000
attribute [local go_sem] max2_int min2_int max_two min_two max_three min_three max_four min_four
set_option linter.unusedVariables false
set_option linter.unusedSimpArgs false
mutual
def impl_base32.l0:Nat→ByteArray→List Int→Int→Int→Int→Option (ByteArray)
 |0,_,_,_,_,_=>none
 |k+1,x0,x3,x4,x5,x6=>if x6<(x0.size:Int)then(if 0≤x6 then(impl_base32.l1 k x0 x3 (Go.bits .or .i64 (wrap64 (x4*256)) (wrap64 (bt x0 x6))) (wrap64 (x5+8)) x6)else(none))else(if x5>0 then(if 0≤(wrap64 (5-x5))then(if 0≤(Go.bits .and .i64 (shl .i64 x4 (wrap64 (5-x5))) 31)then(if(Go.bits .and .i64 (shl .i64 x4 (wrap64 (5-x5))) 31)<32 then(if x3.length<140737488355328 then(some (strOfNums (x3++ [bt (⟨#[65,66,67,68,69,70,71,72,73,74,75,76,77,78,79,80,81,82,83,84,85,86,87,88,89,90,50,51,52,53,54,55]⟩:ByteArray) (Go.bits .and .i64 (shl .i64 x4 (wrap64 (5-x5))) 31)])))else(none))else(none))else(none))else(none))else(some (strOfNums x3)))
def impl_base32.l1:Nat→ByteArray→List Int→Int→Int→Int→Option (ByteArray)
 |0,_,_,_,_,_=>none
 |k+1,x0,x3,x4,x5,x6=>if x5≥5 then(if 0≤(wrap64 (x5-5))then(if 0≤(Go.bits .and .i64 (shr .i64 x4 (wrap64 (x5-5))) 31)then(if(Go.bits .and .i64 (shr .i64 x4 (wrap64 (x5-5))) 31)<32 then(if x3.length<140737488355328 then(impl_base32.l1 k x0 (x3++ [bt (⟨#[65,66,67,68,69,70,71,72,73,74,75,76,77,78,79,80,81,82,83,84,85,86,87,88,89,90,50,51,52,53,54,55]⟩:ByteArray) (Go.bits .and .i64 (shr .i64 x4 (wrap64 (x5-5))) 31)]) x4 (wrap64 (x5-5)) x6)else(none))else(none))else(none))else(none))else(impl_base32.l0 k x0 x3 (Go.bits .and .i64 x4 31) x5 (wrap64 (x6+1)))
end
def impl_base32.f (k:Nat) (a0:ByteArray):Option (ByteArray):=impl_base32.l0 k a0 ([]:List Int) 0 0 0
theorem impl_base32.calls (k:Nat) (a0 r:ByteArray) (w:World) (h:impl_base32.f k a0=some r):
  Calls Tryz.prog 106 #[.string a0] w fun e w'=>e= .returned (.string r)∧Below w.heap.size w w':=by
 have HB:=Aside0.mk (Below.refl w.heap.size w);have H:(impl_base32.l0 k a0 ([]:List Int) 0 0 0)=some r:=h;clear h;have H':=Aside0.mk H;clear H;go_enter Tryz.func106,Tryz.ntmps106
 go_wp2
 go_loopg [3,4,5,6] k (fun kq v3 v4 v5 v6 w'=> ∃(x3_1:List Int) (x4_1 x5_1 x6_1:Int),v4= .int .i64 x4_1∧v5= .int .i64 x5_1∧v6= .int .i64 x6_1∧Aside0 (impl_base32.l0 kq a0 x3_1 x4_1 x5_1 x6_1=some r)∧Aside0 (kq≤k)∧Aside0 (Kd.R (Kd.int .u8) 5 w' w.heap.size (fun _=>True) v3 x3_1)∧Aside0 (Below w.heap.size w w'))
 case atStart=>exact⟨(([]:List Int)),(0),(0),(0),zz2,zz2,zz2,H',⟨Nat.le_refl _⟩,⟨zz30⟩,⟨zz0⟩⟩
 case round=>
  clear H';(try clear c1);obtain⟨x3_1,x4_1,x5_1,x6_1,rfl,rfl,rfl,HA,HK1,HO_3,HB⟩:=hrel
  cases gk with
  |zero=>exact absurd HA.out (by simp[impl_base32.l0])
  |succ k1=>
   have H:=HA.out;clear HA;simp only[impl_base32.l0]at H
   by_cases c2:x6_1<(a0.size:Int)
   ·rw[if_pos c2]at H;have c2b0:decide (x6_1<(a0.size:Int))=true:=decide_eq_true c2;clear c2
    by_cases c3:0≤x6_1
    ·rw[if_pos c3]at H;have c3b0:decide (0≤x6_1)=true:=decide_eq_true c3;clear c3;have H':=Aside0.mk H;clear H;have p4:0≤(x6_1:Int):=of_decide_eq_true zz3;have q4:x6_1<(a0.size:Int):=of_decide_eq_true zz3;have hx4:=bt_at a0 x6_1;replace p4:=eq_true p4;replace q4:=eq_true q4;go_wp2
     go_loopg [3,5] k1 (fun kq v3 v5 w'=> ∃(x3_2:List Int) (x5_2:Int),v5= .int .i64 x5_2∧Aside0 (impl_base32.l1 kq a0 x3_2 (Go.bits .or .i64 (wrap64 (x4_1*256)) (wrap64 (bt a0 x6_1))) x5_2 x6_1=some r)∧Aside0 (kq≤k1)∧Aside0 (Kd.R (Kd.int .u8) 5 w' w.heap.size (fun _=>True) v3 x3_2)∧Aside0 (Below w.heap.size w w'))
     case atStart=>exact⟨(x3_1),(wrap64 (x5_1+8)),zz2,H',⟨Nat.le_refl _⟩,⟨zz10⟩,⟨zz0⟩⟩
     case round=>
      clear H';(try clear c1);(try clear c2);(try clear c2b0);(try clear p2);(try clear c3);(try clear c3b0);(try clear p4);(try clear q4);(try clear hx4);(try clear p4);(try clear q4);obtain⟨x3_2,x5_2,rfl,HA,HK2,HO_3,HB⟩:=hrel
      cases gk with
      |zero=>exact absurd HA.out (by simp[impl_base32.l1])
      |succ k2=>
       have H:=HA.out;clear HA;simp only[impl_base32.l1]at H
       by_cases c5:x5_2≥5
       ·rw[if_pos c5]at H;have c5b0:decide (5≤x5_2)=true:=decide_eq_true c5;clear c5;obtain⟨ji6,hji6⟩: ∃j_:Int,(wrap64 (x5_2-5))=j_:=⟨_,rfl⟩;replace H:(if 0≤(ji6)then(if 0≤(Go.bits .and .i64 (shr .i64 (Go.bits .or .i64 (wrap64 (x4_1*256)) (wrap64 (bt a0 x6_1))) (ji6)) 31)then(if(Go.bits .and .i64 (shr .i64 (Go.bits .or .i64 (wrap64 (x4_1*256)) (wrap64 (bt a0 x6_1))) (ji6)) 31)<32 then(if x3_2.length<140737488355328 then(impl_base32.l1 k2 a0 (x3_2++ [bt (⟨#[65,66,67,68,69,70,71,72,73,74,75,76,77,78,79,80,81,82,83,84,85,86,87,88,89,90,50,51,52,53,54,55]⟩:ByteArray) (Go.bits .and .i64 (shr .i64 (Go.bits .or .i64 (wrap64 (x4_1*256)) (wrap64 (bt a0 x6_1))) (ji6)) 31)]) (Go.bits .or .i64 (wrap64 (x4_1*256)) (wrap64 (bt a0 x6_1))) ji6 x6_1)else(none))else(none))else(none))else(none))=some r:=by first|(rw[hji6]at H;exact H)|(simp only[hji6]at H ⊢;exact H)
        have hji6w:(IntKind.i64.wrap (x5_2-5))=ji6:=(i64_w _).trans hji6
        by_cases c7:0≤(ji6)
        ·rw[if_pos c7]at H;have c7b0:=eq_true c7;have c7b1:decide (0≤(ji6))=true:=decide_eq_true c7;clear c7;obtain⟨ji8,hji8⟩: ∃j_:Int,(shr .i64 (Go.bits .or .i64 (wrap64 (x4_1*256)) (wrap64 (bt a0 x6_1))) (ji6))=j_:=⟨_,rfl⟩;replace H:(if 0≤(Go.bits .and .i64 (ji8) 31)then(if(Go.bits .and .i64 (ji8) 31)<32 then(if x3_2.length<140737488355328 then(impl_base32.l1 k2 a0 (x3_2++ [bt (⟨#[65,66,67,68,69,70,71,72,73,74,75,76,77,78,79,80,81,82,83,84,85,86,87,88,89,90,50,51,52,53,54,55]⟩:ByteArray) (Go.bits .and .i64 (ji8) 31)]) (Go.bits .or .i64 (wrap64 (x4_1*256)) (wrap64 (bt a0 x6_1))) ji6 x6_1)else(none))else(none))else(none))=some r:=by first|(rw[hji8]at H;exact H)|(simp only[hji8]at H ⊢;exact H)
         have hji8_:((Go.bits .or .i64 (wrap64 (x4_1*256)) (wrap64 (bt a0 x6_1)))/2^min (ji6).toNat 64)=ji8:=hji8;have hji8z:(ji6)≤64→((Go.bits .or .i64 (wrap64 (x4_1*256)) (wrap64 (bt a0 x6_1)))/2^(ji6).toNat)=ji8:=shr_small hji8
         by_cases c9:0≤(Go.bits .and .i64 (ji8) 31)
         ·rw[if_pos c9]at H;have c9b0:decide (0≤(Go.bits .and .i64 (ji8) 31))=true:=decide_eq_true c9;clear c9
          by_cases c10:(Go.bits .and .i64 (ji8) 31)<32
          ·rw[if_pos c10]at H;have c10b0:decide ((Go.bits .and .i64 (ji8) 31)<32)=true:=decide_eq_true c10;clear c10
           by_cases c12:x3_2.length<140737488355328
           ·rw[if_pos c12]at H;have LMc12:=Aside0.mk c12;clear c12;obtain⟨y417,hy417⟩: ∃y_:List Int,y_=(x3_2++ [bt (⟨#[65,66,67,68,69,70,71,72,73,74,75,76,77,78,79,80,81,82,83,84,85,86,87,88,89,90,50,51,52,53,54,55]⟩:ByteArray) (Go.bits .and .i64 (ji8) 31)]):=⟨_,rfl⟩;replace H:(impl_base32.l1 k2 a0 y417 (Go.bits .or .i64 (wrap64 (x4_1*256)) (wrap64 (bt a0 x6_1))) ji6 x6_1)=some r:=by first|(rw[hy417];with_reducible exact H)|(have H2_:=(Option.bind_some _ _).symm.trans H;rw[hy417];with_reducible exact H2_)|(have H2_:=(Option.bind_some _ _).symm.trans H;with_reducible exact H2_)|with_reducible exact H|(rw[hy417];exact H)|exact H
            have Ny417:=Aside0.mk hy417;clear hy417;have H':=Aside0.mk H;clear H;have p11:0≤((Go.bits .and .i64 (ji8) 31):Int):=of_decide_eq_true zz3;have q11:(Go.bits .and .i64 (ji8) 31)<(32:Int):=of_decide_eq_true zz3;have hx11:=bt_at (⟨#[65,66,67,68,69,70,71,72,73,74,75,76,77,78,79,80,81,82,83,84,85,86,87,88,89,90,50,51,52,53,54,55]⟩:ByteArray) (Go.bits .and .i64 (ji8) 31);replace p11:=eq_true p11;replace q11:=eq_true q11;go_wp2_with (first|((with_reducible refine gate_builtin (b:= .append) (xs:= #[.tmp 26,.tmp 33]) rfl ?_);at_builtin;refine Kd.R_append (Kd.int .u8) (w0:=w) w.heap.size rfl (.tmp 26) (.tmp 33) 63 5 (.int .u8 0) 1 rfl Tryz.underlying63 info5 rfl (by decide) (by omega) u3 x3_2 (bt (⟨#[65,66,67,68,69,70,71,72,73,74,75,76,77,78,79,80,81,82,83,84,85,86,87,88,89,90,50,51,52,53,54,55]⟩:ByteArray) (Go.bits .and .i64 (ji8) 31)) [.int .u8 (bt (⟨#[65,66,67,68,69,70,71,72,73,74,75,76,77,78,79,80,81,82,83,84,85,86,87,88,89,90,50,51,52,53,54,55]⟩:ByteArray) (Go.bits .and .i64 (ji8) 31))] (fun _=>True) (fun _=>False) rfl rfl ?aP (fun _ hk=>hk.elim) ?aF ?aO ?aB ?aS ?aL ?_;(case aP=>exact rfl);(case aB=>exact zz0);(case aF=>exact(fun _ _=>trivial));(case aO=>exact zz10);(case aS=>exact(below_size zz0));(case aL=>have:=LMc12.out;omega);intro v418 w13 ho hb hg hat;rw[←Ny417.out]at ho;replace HB:=Aside0.mk (hb);have HO419:=Aside0.mk (ho);clear HO_3;clear ho hb hg hat))
            go_roundg k2
            (case measure=>have:=HK1.out;have:=HK2.out;omega);case rel=>exact⟨(y417),(ji6),(by first|rfl|(simp;done)|(simp only[←hji6]<;>(first|rfl|simp))|(simp[*];done)),H',⟨zz70⟩,⟨by(with_reducible repeat(first|apply Kd.R_alloc|apply Kd.R_drewN|apply Kd.R_drew));exact HO419.out⟩,⟨zz0⟩⟩
           ·rw[if_neg c12]at H;exact absurd H (by simp)
          ·rw[if_neg c10]at H;exact absurd H (by simp)
         ·rw[if_neg c9]at H;exact absurd H (by simp)
        ·rw[if_neg c7]at H;exact absurd H (by simp)
       ·rw[if_neg c5]at H;have c5b0:decide (5≤x5_2)=false:=decide_eq_false c5;clear c5;have H':=Aside0.mk H;clear H;go_wp2
        go_roundg k2
        (case measure=>have:=HK1.out;have:=HK2.out;omega);case rel=>exact⟨(x3_2),(Go.bits .and .i64 (Go.bits .or .i64 (wrap64 (x4_1*256)) (wrap64 (bt a0 x6_1))) 31),(x5_2),(wrap64 (x6_1+1)),zz2,zz2,zz2,H',⟨zz70⟩,⟨zz10⟩,⟨zz0⟩⟩
    ·rw[if_neg c3]at H;exact absurd H (by simp)
   ·rw[if_neg c2]at H;have c2b0:decide (x6_1<(a0.size:Int))=false:=decide_eq_false c2;clear c2
    by_cases c14:x5_1>0
    ·rw[if_pos c14]at H;have c14b0:decide (0<x5_1)=true:=decide_eq_true c14;clear c14;obtain⟨ji15,hji15⟩: ∃j_:Int,(wrap64 (5-x5_1))=j_:=⟨_,rfl⟩;replace H:(if 0≤(ji15)then(if 0≤(Go.bits .and .i64 (shl .i64 x4_1 (ji15)) 31)then(if(Go.bits .and .i64 (shl .i64 x4_1 (ji15)) 31)<32 then(if x3_1.length<140737488355328 then(some (strOfNums (x3_1++ [bt (⟨#[65,66,67,68,69,70,71,72,73,74,75,76,77,78,79,80,81,82,83,84,85,86,87,88,89,90,50,51,52,53,54,55]⟩:ByteArray) (Go.bits .and .i64 (shl .i64 x4_1 (ji15)) 31)])))else(none))else(none))else(none))else(none))=some r:=by first|(rw[hji15]at H;exact H)|(simp only[hji15]at H ⊢;exact H)
     have hji15w:(IntKind.i64.wrap (5-x5_1))=ji15:=(i64_w _).trans hji15
     by_cases c16:0≤(ji15)
     ·rw[if_pos c16]at H;have c16b0:=eq_true c16;have c16b1:decide (0≤(ji15))=true:=decide_eq_true c16;clear c16;obtain⟨ji17,hji17⟩: ∃j_:Int,(shl .i64 x4_1 (ji15))=j_:=⟨_,rfl⟩;replace H:(if 0≤(Go.bits .and .i64 (ji17) 31)then(if(Go.bits .and .i64 (ji17) 31)<32 then(if x3_1.length<140737488355328 then(some (strOfNums (x3_1++ [bt (⟨#[65,66,67,68,69,70,71,72,73,74,75,76,77,78,79,80,81,82,83,84,85,86,87,88,89,90,50,51,52,53,54,55]⟩:ByteArray) (Go.bits .and .i64 (ji17) 31)])))else(none))else(none))else(none))=some r:=by first|(rw[hji17]at H;exact H)|(simp only[hji17]at H ⊢;exact H)
      have hji17_:(IntKind.i64.wrap (x4_1*2^min (ji15).toNat 64))=ji17:=hji17;have hji17z:(ji15)≤64→(IntKind.i64.wrap (x4_1*2^(ji15).toNat))=ji17:=shl_small hji17;have hji17y:(wrap64 (x4_1*2^min (ji15).toNat 64))=ji17:=(i64_w _).symm.trans hji17_;have hji17x:(ji15)≤64→(wrap64 (x4_1*2^(ji15).toNat))=ji17:=fun h_=>(i64_w _).symm.trans (hji17z h_)
      by_cases c18:0≤(Go.bits .and .i64 (ji17) 31)
      ·rw[if_pos c18]at H;have c18b0:decide (0≤(Go.bits .and .i64 (ji17) 31))=true:=decide_eq_true c18;clear c18
       by_cases c19:(Go.bits .and .i64 (ji17) 31)<32
       ·rw[if_pos c19]at H;have c19b0:decide ((Go.bits .and .i64 (ji17) 31)<32)=true:=decide_eq_true c19;clear c19
        by_cases c21:x3_1.length<140737488355328
        ·rw[if_pos c21]at H;have LMc21:=Aside0.mk c21;clear c21;obtain⟨y414,hy414⟩: ∃y_:List Int,y_=(x3_1++ [bt (⟨#[65,66,67,68,69,70,71,72,73,74,75,76,77,78,79,80,81,82,83,84,85,86,87,88,89,90,50,51,52,53,54,55]⟩:ByteArray) (Go.bits .and .i64 (ji17) 31)]):=⟨_,rfl⟩;replace H:(some (strOfNums y414))=some r:=by first|(rw[hy414];with_reducible exact H)|(have H2_:=(Option.bind_some _ _).symm.trans H;rw[hy414];with_reducible exact H2_)|(have H2_:=(Option.bind_some _ _).symm.trans H;with_reducible exact H2_)|with_reducible exact H|(rw[hy414];exact H)|exact H
         have Ny414:=Aside0.mk hy414;clear hy414;obtain rfl:=Option.some.inj H;have p20:0≤((Go.bits .and .i64 (ji17) 31):Int):=of_decide_eq_true zz3;have q20:(Go.bits .and .i64 (ji17) 31)<(32:Int):=of_decide_eq_true zz3;have hx20:=bt_at (⟨#[65,66,67,68,69,70,71,72,73,74,75,76,77,78,79,80,81,82,83,84,85,86,87,88,89,90,50,51,52,53,54,55]⟩:ByteArray) (Go.bits .and .i64 (ji17) 31);replace p20:=eq_true p20;replace q20:=eq_true q20;go_wp2_with (first|((with_reducible refine gate_builtin (b:= .append) (xs:= #[.tmp 39,.tmp 46]) rfl ?_);at_builtin;refine Kd.R_append (Kd.int .u8) (w0:=w) w.heap.size rfl (.tmp 39) (.tmp 46) 63 5 (.int .u8 0) 1 rfl Tryz.underlying63 info5 rfl (by decide) (by omega) u3 x3_1 (bt (⟨#[65,66,67,68,69,70,71,72,73,74,75,76,77,78,79,80,81,82,83,84,85,86,87,88,89,90,50,51,52,53,54,55]⟩:ByteArray) (Go.bits .and .i64 (ji17) 31)) [.int .u8 (bt (⟨#[65,66,67,68,69,70,71,72,73,74,75,76,77,78,79,80,81,82,83,84,85,86,87,88,89,90,50,51,52,53,54,55]⟩:ByteArray) (Go.bits .and .i64 (ji17) 31))] (fun _=>True) (fun _=>False) rfl rfl ?aP (fun _ hk=>hk.elim) ?aF ?aO ?aB ?aS ?aL ?_;(case aP=>exact rfl);(case aB=>exact zz0);(case aF=>exact(fun _ _=>trivial));(case aO=>exact zz10);(case aS=>exact(below_size zz0));(case aL=>have:=LMc21.out;omega);intro v415 w22 ho hb hg hat;rw[←Ny414.out]at ho;replace HB:=Aside0.mk (hb);have HO416:=Aside0.mk (ho);clear HO_3;clear ho hb hg hat;have hcv23:=own_string (P:=Tryz.prog) Tryz.underlying63 Tryz.underlying5 Tryz.underlying9 (Kd.own_of_R HO416.out)))
         go_ret;exact⟨by first|rfl|(simp[errW_none,errW_some]<;>rfl)|(simp only[←hji15,←hji17];first|rfl|(simp[errW_none,errW_some]<;>rfl))|(simp[*,errW_none,errW_some]<;>rfl),zz0⟩
        ·rw[if_neg c21]at H;exact absurd H (by simp)
       ·rw[if_neg c19]at H;exact absurd H (by simp)
      ·rw[if_neg c18]at H;exact absurd H (by simp)
     ·rw[if_neg c16]at H;exact absurd H (by simp)
    ·rw[if_neg c14]at H;have c14b0:decide (0<x5_1)=false:=decide_eq_false c14;clear c14;obtain rfl:=Option.some.inj H;have hcv24:=own_string (P:=Tryz.prog) Tryz.underlying63 Tryz.underlying5 Tryz.underlying9 (Kd.own_of_R HO_3.out);go_wp2
     go_ret;exact⟨zz1,zz0⟩
def impl_ReadBase32.l0:Nat→ByteArray→List Int→Int→Int→Int→Option (ByteArray×Bool)
 |0,_,_,_,_,_=>none
 |k+1,x0,x4,x5,x6,x7=>if x7<(x0.size:Int)then(if 0≤x7 then((strings_IndexByte.f (⟨#[65,66,67,68,69,70,71,72,73,74,75,76,77,78,79,80,81,82,83,84,85,86,87,88,89,90,50,51,52,53,54,55]⟩:ByteArray) (bt x0 x7)).bind fun t421=>(if t421<0 then(some ((⟨#[]⟩:ByteArray),false))else(if(wrap64 (x6+5))≥8 then(if 0≤(wrap64 ((wrap64 (x6+5))-8))then(if x4.length<140737488355328 then(impl_ReadBase32.l0 k x0 (x4++ [(shr .i64 (Go.bits .and .i64 (Go.bits .or .i64 (wrap64 (x5*32)) t421) 4095) (wrap64 ((wrap64 (x6+5))-8)))%256]) (Go.bits .and .i64 (Go.bits .or .i64 (wrap64 (x5*32)) t421) 4095) (wrap64 ((wrap64 (x6+5))-8)) (wrap64 (x7+1)))else(none))else(none))else(impl_ReadBase32.l0 k x0 x4 (Go.bits .and .i64 (Go.bits .or .i64 (wrap64 (x5*32)) t421) 4095) (wrap64 (x6+5)) (wrap64 (x7+1))))))else(none))else(if(x4.length:Int)>4000 then(some ((⟨#[]⟩:ByteArray),false))else((impl_base32.f k (strOfNums x4)).bind fun t420=>(if t420.toList=x0.toList then(some (strOfNums x4,true))else(some ((⟨#[]⟩:ByteArray),false)))))
def impl_ReadBase32.f (k:Nat) (a0:ByteArray):Option (ByteArray×Bool):=impl_ReadBase32.l0 k a0 ([]:List Int) 0 0 0
theorem impl_ReadBase32.calls (k:Nat) (a0 r1:ByteArray) (r2:Bool) (w:World) (h:impl_ReadBase32.f k a0=some (r1,r2)):
  Calls Tryz.prog 67 #[.string a0] w fun e w'=>e= .returned (.tuple #[.string r1,.bool r2])∧Below w.heap.size w w':=by
 have HB:=Aside0.mk (Below.refl w.heap.size w);have H:(impl_ReadBase32.l0 k a0 ([]:List Int) 0 0 0)=some (r1,r2):=h;clear h;have H':=Aside0.mk H;clear H;go_enter Tryz.func67,Tryz.ntmps67
 go_wp2
 go_loopg [4,5,6,7] k (fun kq v4 v5 v6 v7 w'=> ∃(x4_1:List Int) (x5_1 x6_1 x7_1:Int),v5= .int .i64 x5_1∧v6= .int .i64 x6_1∧v7= .int .i64 x7_1∧Aside0 (impl_ReadBase32.l0 kq a0 x4_1 x5_1 x6_1 x7_1=some (r1,r2))∧Aside0 (kq≤k)∧Aside0 (Kd.R (Kd.int .u8) 5 w' w.heap.size (fun _=>True) v4 x4_1)∧Aside0 (Below w.heap.size w w'))
 case atStart=>exact⟨(([]:List Int)),(0),(0),(0),zz2,zz2,zz2,H',⟨Nat.le_refl _⟩,⟨zz30⟩,⟨zz0⟩⟩
 case round=>
  clear H';obtain⟨x4_1,x5_1,x6_1,x7_1,rfl,rfl,rfl,HA,HK1,HO_4,HB⟩:=hrel
  cases gk with
  |zero=>exact absurd HA.out (by simp[impl_ReadBase32.l0])
  |succ k1=>
   have H:=HA.out;clear HA;simp only[impl_ReadBase32.l0]at H
   by_cases c2:x7_1<(a0.size:Int)
   ·rw[if_pos c2]at H;have c2b0:decide (x7_1<(a0.size:Int))=true:=decide_eq_true c2;clear c2
    by_cases c3:0≤x7_1
    ·rw[if_pos c3]at H;have c3b0:decide (0≤x7_1)=true:=decide_eq_true c3;clear c3;replace H:=Option.bind_eq_some_iff.mp H;obtain⟨t421,A50,H⟩:=H;(try dsimp only at H);have A5:=Aside0.mk A50;clear A50;have HC6:=Aside0.mk H;clear H;have p4:0≤(x7_1:Int):=of_decide_eq_true zz3;have q4:x7_1<(a0.size:Int):=of_decide_eq_true zz3;have hx4:=bt_at a0 x7_1;replace p4:=eq_true p4;replace q4:=eq_true q4;go_upto_if 20 with(first|((with_reducible refine gate_callee (f:=105) rfl ?_);refine goesR_ 18 Tryz.func105 #[.string (⟨#[65,66,67,68,69,70,71,72,73,74,75,76,77,78,79,80,81,82,83,84,85,86,87,88,89,90,50,51,52,53,54,55]⟩:ByteArray),.int .u8 (bt a0 x7_1)] (strings_IndexByte.calls (⟨#[65,66,67,68,69,70,71,72,73,74,75,76,77,78,79,80,81,82,83,84,85,86,87,88,89,90,50,51,52,53,54,55]⟩:ByteArray) (bt a0 x7_1) t421 _ A5.out) ?_;rintro w' ⟨nd,rfl⟩))
     (try simp only[Act.put,List.setIfInBounds_toArray,List.set_cons_zero,List.set_cons_succ]);(try(rw[drewN_self wr];generalize hq_:World.drewN wr _=wr;have n0_:Aside0 (Kd.R (Kd.int .u8) 5 wr w.heap.size (fun _=>True) u4 x4_1):=⟨by rw[←hq_];exact zz20⟩;have n1_:Aside0 (Below w.heap.size w wr):=⟨zz101⟩;clear HO_4 HB hq_;have HO_4:=n0_;have HB:=n1_;clear n0_ n1_));have H:=HC6.out;clear HC6
     by_cases c7:t421<0
     ·rw[if_pos c7]at H;have c7b0:decide (t421<0)=true:=decide_eq_true c7;clear c7;(first|rw[c7b0]|(simp only[i64_w,i32_w];rw[c7b0])|skip);simp only[Option.some.injEq,Prod.mk.injEq]at H;obtain⟨rfl,rfl⟩:=H;go_wp2
      go_ret2
      exact⟨zz1,zz0⟩
     ·rw[if_neg c7]at H;have c7b0:decide (t421<0)=false:=decide_eq_false c7;clear c7;(first|rw[c7b0]|(simp only[i64_w,i32_w];rw[c7b0])|skip)
      by_cases c8:(wrap64 (x6_1+5))≥8
      ·rw[if_pos c8]at H;have c8b0:decide (8≤(wrap64 (x6_1+5)))=true:=decide_eq_true c8;clear c8;obtain⟨ji9,hji9⟩: ∃j_:Int,(wrap64 ((wrap64 (x6_1+5))-8))=j_:=⟨_,rfl⟩;replace H:(if 0≤(ji9)then(if x4_1.length<140737488355328 then(impl_ReadBase32.l0 k1 a0 (x4_1++ [(shr .i64 (Go.bits .and .i64 (Go.bits .or .i64 (wrap64 (x5_1*32)) t421) 4095) (ji9))%256]) (Go.bits .and .i64 (Go.bits .or .i64 (wrap64 (x5_1*32)) t421) 4095) ji9 (wrap64 (x7_1+1)))else(none))else(none))=some (r1,r2):=by first|(rw[hji9]at H;exact H)|(simp only[hji9]at H ⊢;exact H)
       have hji9w:(IntKind.i64.wrap ((wrap64 (x6_1+5))-8))=ji9:=(i64_w _).trans hji9
       by_cases c10:0≤(ji9)
       ·rw[if_pos c10]at H;have c10b0:=eq_true c10;have c10b1:decide (0≤(ji9))=true:=decide_eq_true c10;clear c10;obtain⟨ji11,hji11⟩: ∃j_:Int,(shr .i64 (Go.bits .and .i64 (Go.bits .or .i64 (wrap64 (x5_1*32)) t421) 4095) (ji9))=j_:=⟨_,rfl⟩;replace H:(if x4_1.length<140737488355328 then(impl_ReadBase32.l0 k1 a0 (x4_1++ [(ji11)%256]) (Go.bits .and .i64 (Go.bits .or .i64 (wrap64 (x5_1*32)) t421) 4095) ji9 (wrap64 (x7_1+1)))else(none))=some (r1,r2):=by first|(rw[hji11]at H;exact H)|(simp only[hji11]at H ⊢;exact H)
        have hji11_:((Go.bits .and .i64 (Go.bits .or .i64 (wrap64 (x5_1*32)) t421) 4095)/2^min (ji9).toNat 64)=ji11:=hji11;have hji11z:(ji9)≤64→((Go.bits .and .i64 (Go.bits .or .i64 (wrap64 (x5_1*32)) t421) 4095)/2^(ji9).toNat)=ji11:=shr_small hji11
        by_cases c12:x4_1.length<140737488355328
        ·rw[if_pos c12]at H;have LMc12:=Aside0.mk c12;clear c12;obtain⟨y422,hy422⟩: ∃y_:List Int,y_=(x4_1++ [(ji11)%256]):=⟨_,rfl⟩;replace H:(impl_ReadBase32.l0 k1 a0 y422 (Go.bits .and .i64 (Go.bits .or .i64 (wrap64 (x5_1*32)) t421) 4095) ji9 (wrap64 (x7_1+1)))=some (r1,r2):=by first|(rw[hy422];with_reducible exact H)|(have H2_:=(Option.bind_some _ _).symm.trans H;rw[hy422];with_reducible exact H2_)|(have H2_:=(Option.bind_some _ _).symm.trans H;with_reducible exact H2_)|with_reducible exact H|(rw[hy422];exact H)|exact H
         have Ny422:=Aside0.mk hy422;clear hy422;have H':=Aside0.mk H;clear H;go_wp2_with (first|((with_reducible refine gate_builtin (b:= .append) (xs:= #[.tmp 32,.tmp 37]) rfl ?_);at_builtin;refine Kd.R_append (Kd.int .u8) (w0:=w) w.heap.size rfl (.tmp 32) (.tmp 37) 63 5 (.int .u8 0) 1 rfl Tryz.underlying63 info5 rfl (by decide) (by omega) u4 x4_1 ((ji11)%256) [.int .u8 ((ji11)%256)] (fun _=>True) (fun _=>False) rfl rfl ?aP (fun _ hk=>hk.elim) ?aF ?aO ?aB ?aS ?aL ?_;(case aP=>exact rfl);(case aB=>exact zz0);(case aF=>exact(fun _ _=>trivial));(case aO=>exact zz20);(case aS=>exact(below_size zz0));(case aL=>have:=LMc12.out;omega);intro v423 w13 ho hb hg hat;rw[←Ny422.out]at ho;replace HB:=Aside0.mk (hb);have HO424:=Aside0.mk (ho);clear HO_4;clear ho hb hg hat))
         go_roundg k1
         (case measure=>have:=HK1.out;omega);case rel=>exact⟨(y422),(Go.bits .and .i64 (Go.bits .or .i64 (wrap64 (x5_1*32)) t421) 4095),(ji9),(wrap64 (x7_1+1)),zz2,(by first|rfl|(simp;done)|(simp only[←hji9]<;>(first|rfl|simp))|(simp[*];done)),zz2,H',⟨zz50⟩,⟨by(with_reducible repeat(first|apply Kd.R_alloc|apply Kd.R_drewN|apply Kd.R_drew));exact HO424.out⟩,⟨zz0⟩⟩
        ·rw[if_neg c12]at H;exact absurd H (by simp)
       ·rw[if_neg c10]at H;exact absurd H (by simp)
      ·rw[if_neg c8]at H;have c8b0:decide (8≤(wrap64 (x6_1+5)))=false:=decide_eq_false c8;clear c8;have H':=Aside0.mk H;clear H;go_wp2
       go_roundg k1
       (case measure=>have:=HK1.out;omega);case rel=>exact⟨(x4_1),(Go.bits .and .i64 (Go.bits .or .i64 (wrap64 (x5_1*32)) t421) 4095),(wrap64 (x6_1+5)),(wrap64 (x7_1+1)),zz2,zz2,zz2,H',⟨zz50⟩,⟨zz20⟩,⟨zz0⟩⟩
    ·rw[if_neg c3]at H;exact absurd H (by simp)
   ·rw[if_neg c2]at H;have c2b0:decide (x7_1<(a0.size:Int))=false:=decide_eq_false c2;clear c2;have HC14:=Aside0.mk H;clear H;obtain⟨Ao15,co15,eo15⟩:=Kd.R_slice HO_4.out;subst eo15
    repeat' (first|(go_big_may;(fail))|go_values|go_skip|go_big_skip|go_big_want|((first|(with_reducible refine gate_nog rfl ?_)|(fail_if_success with_reducible refine gate_any ?_));go_step)|go_upon|simp only[Bool.not_true,Bool.not_false,Bool.true_and,Bool.false_and,Bool.true_or,Bool.false_or]|dsimp only)
    have H:=HC14.out;clear HC14
    by_cases c16:(x4_1.length:Int)>4000
    ·rw[if_pos c16]at H;have c16b0:decide (4000<(x4_1.length:Int))=true:=decide_eq_true c16;have c16b1:decide (4000<x4_1.length)=true:=decide_eq_true (by omega);clear c16;(first|rw[c16b0]|(simp only[i64_w,i32_w];rw[c16b0])|rw[c16b1]|(rw[c16b2];simp only[Bool.not_true,Bool.not_false])|skip);simp only[Option.some.injEq,Prod.mk.injEq]at H;obtain⟨rfl,rfl⟩:=H;go_wp2
     go_ret2
     exact⟨zz1,zz0⟩
    ·rw[if_neg c16]at H;have c16b0:decide (4000<(x4_1.length:Int))=false:=decide_eq_false c16;have c16b1:decide (4000<x4_1.length)=false:=decide_eq_false (by omega);clear c16;(first|rw[c16b0]|(simp only[i64_w,i32_w];rw[c16b0])|rw[c16b1]|(rw[c16b2];simp only[Bool.not_true,Bool.not_false])|skip);replace H:=Option.bind_eq_some_iff.mp H;obtain⟨t420,A170,H⟩:=H;(try dsimp only at H);have A17:=Aside0.mk A170;clear A170;have HC18:=Aside0.mk H;clear H;have hcv19:=own_string (P:=Tryz.prog) Tryz.underlying63 Tryz.underlying5 Tryz.underlying9 (Kd.own_of_R HO_4.out);go_upto_if 48 with(first|(go_at_call 106;(with_reducible refine(impl_base32.calls k1 (strOfNums x4_1) t420 _ A17.out).mono ?_);rintro e w20 ⟨rfl,hb⟩;have n0_:=Aside0.mk (Kd.R_below zz20 hb);have n1_:=Aside0.mk (below_step zz0 hb);clear HO_4;clear HB;have HO_4:=n0_;have HB:=n1_;clear n0_ n1_;(try clear hb);(try clear hb2);(try clear hk);(try clear hi)))
     (try simp only[Act.put,List.setIfInBounds_toArray,List.set_cons_zero,List.set_cons_succ]);have H:=HC18.out;clear HC18
     by_cases c21:t420.toList=a0.toList
     ·rw[if_pos c21]at H;have c21b0:(t420.toList==a0.toList)=true:=beq_iff_eq.mpr c21;have c21b1:(t420.toList !=a0.toList)=false:=bne_eq_false_iff_eq.mpr c21;clear c21;(first|rw[c21b0]|(simp only[i64_w,i32_w];rw[c21b0])|rw[c21b1]|(rw[c21b2];simp only[Bool.not_true,Bool.not_false])|skip);simp only[Option.some.injEq,Prod.mk.injEq]at H;obtain⟨rfl,rfl⟩:=H;have hcv22:=own_string (P:=Tryz.prog) Tryz.underlying63 Tryz.underlying5 Tryz.underlying9 (Kd.own_of_R HO_4.out);go_wp2
      go_ret2
      exact⟨zz1,zz0⟩
     ·rw[if_neg c21]at H;have c21b0:(t420.toList==a0.toList)=false:=beq_eq_false_iff_ne.mpr c21;have c21b1:(t420.toList !=a0.toList)=true:=bne_iff_ne.mpr c21;(first|rw[c21b0]|(simp only[i64_w,i32_w];rw[c21b0])|rw[c21b1]|(rw[c21b2];simp only[Bool.not_true,Bool.not_false])|skip);simp only[Option.some.injEq,Prod.mk.injEq]at H;obtain⟨rfl,rfl⟩:=H;go_wp2
      go_ret2
      exact⟨zz1,zz0⟩
def impl_ReadLabel.f (k:Nat) (a0:ByteArray):Option (ByteArray×Bool):=(strings_CutPrefix.f a0 (⟨#[115,104,97,49,58]⟩:ByteArray)).bind fun bt425=>(if bt425.2=true then(if(bt425.1.size:Int)=32 then((impl_ReadBase32.f k bt425.1).bind fun bt427=>(some (bt427.1,bt427.2)))else(some ((⟨#[]⟩:ByteArray),false)))else(some ((⟨#[]⟩:ByteArray),false)))
theorem impl_ReadLabel.calls (k:Nat) (a0 r1:ByteArray) (r2:Bool) (w:World) (h:impl_ReadLabel.f k a0=some (r1,r2)):
  Calls Tryz.prog 35 #[.string a0] w fun e w'=>e= .returned (.tuple #[.string r1,.bool r2])∧Below w.heap.size w w':=by
 have HB:=Aside0.mk (Below.refl w.heap.size w);have H:((strings_CutPrefix.f a0 (⟨#[115,104,97,49,58]⟩:ByteArray)).bind fun bt425=>(if bt425.2=true then(if(bt425.1.size:Int)=32 then((impl_ReadBase32.f k bt425.1).bind fun bt427=>(some (bt427.1,bt427.2)))else(some ((⟨#[]⟩:ByteArray),false)))else(some ((⟨#[]⟩:ByteArray),false))))=some (r1,r2):=h;clear h;replace H:=Option.bind_eq_some_iff.mp H;obtain⟨⟨t425,t426⟩,A20,H⟩:=H;(try dsimp only at H);have A2:=Aside0.mk A20;clear A20
 by_cases c3:t426=true
 ·subst c3;rw[if_pos rfl]at H
  by_cases c4:(t425.size:Int)=32
  ·rw[if_pos c4]at H;have c4b0:((t425.size:Int)==32)=true:=beq_iff_eq.mpr c4;have c4b1:((t425.size:Int)!=32)=false:=bne_eq_false_iff_eq.mpr c4;clear c4;replace H:=Option.bind_eq_some_iff.mp H;obtain⟨⟨t427,t428⟩,A50,H⟩:=H;(try dsimp only at H);have A5:=Aside0.mk A50;clear A50;simp only[Option.some.injEq,Prod.mk.injEq]at H;obtain⟨rfl,rfl⟩:=H;go_enter Tryz.func35,Tryz.ntmps35
   go_wp2_with (first|((with_reducible refine gate_callee (f:=66) rfl ?_);refine goesR_ 8 Tryz.func66 #[.string a0,.string (⟨#[115,104,97,49,58]⟩:ByteArray)] (strings_CutPrefix.calls a0 (⟨#[115,104,97,49,58]⟩:ByteArray) t425 true _ A2.out) ?_;rintro w' ⟨nd,rfl⟩)|((with_reducible refine gate_callee (f:=67) rfl ?_);refine goesR_ 19 Tryz.func67 #[.string t425] (impl_ReadBase32.calls k t425 t427 t428 _ A5.out) ?_;rintro w6 hb;replace HB:=Aside0.mk (below_step zz0 hb);(try clear hb)))
   go_ret2
   exact⟨zz1,zz0⟩
  ·rw[if_neg c4]at H;have c4b0:((t425.size:Int)==32)=false:=beq_eq_false_iff_ne.mpr c4;have c4b1:((t425.size:Int)!=32)=true:=bne_iff_ne.mpr c4;simp only[Option.some.injEq,Prod.mk.injEq]at H;obtain⟨rfl,rfl⟩:=H;go_enter Tryz.func35,Tryz.ntmps35
   go_wp2_with (first|((with_reducible refine gate_callee (f:=66) rfl ?_);refine goesR_ 8 Tryz.func66 #[.string a0,.string (⟨#[115,104,97,49,58]⟩:ByteArray)] (strings_CutPrefix.calls a0 (⟨#[115,104,97,49,58]⟩:ByteArray) t425 true _ A2.out) ?_;rintro w' ⟨nd,rfl⟩))
   go_ret2
   exact⟨zz1,zz0⟩
 ·replace c3:=Bool.eq_false_iff.mpr c3;subst c3;rw[if_neg Bool.false_ne_true]at H;simp only[Option.some.injEq,Prod.mk.injEq]at H;obtain⟨rfl,rfl⟩:=H;go_enter Tryz.func35,Tryz.ntmps35
  go_wp2_with (first|((with_reducible refine gate_callee (f:=66) rfl ?_);refine goesR_ 8 Tryz.func66 #[.string a0,.string (⟨#[115,104,97,49,58]⟩:ByteArray)] (strings_CutPrefix.calls a0 (⟨#[115,104,97,49,58]⟩:ByteArray) t425 false _ A2.out) ?_;rintro w' ⟨nd,rfl⟩))
  go_ret2
  exact⟨zz1,zz0⟩
def impl_isTime.f (a0:Int):Option (Bool):=(impl_within.f a0 0 253402300799).bind fun t429=>(some t429)
theorem impl_isTime.calls (a0:Int) (r:Bool) (w:World) (h:impl_isTime.f a0=some r):
  Calls Tryz.prog 36 #[.int .i64 a0] w fun e w'=>e= .returned (.bool r)∧Drawn0 w w':=by
 have H:((impl_within.f a0 0 253402300799).bind fun t429=>(some t429))=some r:=h;clear h;replace H:=Option.bind_eq_some_iff.mp H;obtain⟨t429,A20,H⟩:=H;(try dsimp only at H);have A2:=Aside0.mk A20;clear A20;obtain rfl:=Option.some.inj H;go_enter Tryz.func36,Tryz.ntmps36
 go_wp2_with (first|((with_reducible refine gate_callee (f:=40) rfl ?_);refine goesR_ 4 Tryz.func40 #[.int .i64 a0,.int .i64 0,.int .i64 253402300799] (impl_within.calls a0 0 253402300799 t429 _ A2.out) ?_;rintro w' ⟨nd,rfl⟩))
 go_ret;exact⟨zz2,zz4⟩
def impl_isSide.f (a0:Int):Option (Bool):=if a0=0 then(some true)else(some (a0==1))
theorem impl_isSide.calls (a0:Int) (r:Bool) (w:World) (h:impl_isSide.f a0=some r):
  Calls Tryz.prog 37 #[.int .i64 a0] w fun e w'=>e= .returned (.bool r)∧Drawn0 w w':=by
 have H:(if a0=0 then(some true)else(some (a0==1)))=some r:=h;clear h
 by_cases c2:a0=0
 ·rw[if_pos c2]at H;have c2b0:(a0==0)=true:=beq_iff_eq.mpr c2;have c2b1:(a0 !=0)=false:=bne_eq_false_iff_eq.mpr c2;clear c2;obtain rfl:=Option.some.inj H;go_enter Tryz.func37,Tryz.ntmps37
  go_wp2
  go_ret;exact⟨zz2,zz4⟩
 ·rw[if_neg c2]at H;have c2b0:(a0==0)=false:=beq_eq_false_iff_ne.mpr c2;have c2b1:(a0 !=0)=true:=bne_iff_ne.mpr c2;obtain rfl:=Option.some.inj H;go_enter Tryz.func37,Tryz.ntmps37
  go_wp2
  go_ret;exact⟨zz2,zz4⟩
def impl_isTokenByte.f (a0:Int):Option (Bool):=(impl_isLower.f a0).bind fun t430=>(if t430=true then(some true)else((impl_isUpper.f a0).bind fun t431=>(if t431=true then(some true)else((impl_isDigit.f a0).bind fun t432=>(if t432=true then(some true)else(if a0=96 then(some true)else((strings_IndexByte.f (⟨#[33,35,36,37,38,39,42,43,45,46,94,95,124,126]⟩:ByteArray) a0).bind fun t433=>(some (decide (t433≥0))))))))))
theorem impl_isTokenByte.calls (a0:Int) (r:Bool) (w:World) (h:impl_isTokenByte.f a0=some r):
  Calls Tryz.prog 107 #[.int .u8 a0] w fun e w'=>e= .returned (.bool r)∧Drawn0 w w':=by
 have H:((impl_isLower.f a0).bind fun t430=>(if t430=true then(some true)else((impl_isUpper.f a0).bind fun t431=>(if t431=true then(some true)else((impl_isDigit.f a0).bind fun t432=>(if t432=true then(some true)else(if a0=96 then(some true)else((strings_IndexByte.f (⟨#[33,35,36,37,38,39,42,43,45,46,94,95,124,126]⟩:ByteArray) a0).bind fun t433=>(some (decide (t433≥0)))))))))))=some r:=h;clear h;replace H:=Option.bind_eq_some_iff.mp H;obtain⟨t430,A20,H⟩:=H;(try dsimp only at H);have A2:=Aside0.mk A20;clear A20;have HC3:=Aside0.mk H;clear H;go_enter Tryz.func107,Tryz.ntmps107
 repeat' (first|(go_big_may;(first|((with_reducible refine gate_callee (f:=134) rfl ?_);refine goesR_ 4 Tryz.func134 #[.int .u8 a0] (impl_isLower.calls a0 t430 _ A2.out) ?_;rintro w' ⟨nd,rfl⟩)))|go_values|go_skip|go_big_skip|go_big_want|((first|(with_reducible refine gate_nog rfl ?_)|(fail_if_success with_reducible refine gate_any ?_));go_step)|go_upon|simp only[Bool.not_true,Bool.not_false,Bool.true_and,Bool.false_and,Bool.true_or,Bool.false_or]|dsimp only)
 (try simp only[Act.put,List.setIfInBounds_toArray,List.set_cons_zero,List.set_cons_succ]);have H:=HC3.out;clear HC3
 by_cases c4:t430=true
 ·subst c4;rw[if_pos rfl]at H;obtain rfl:=Option.some.inj H;go_wp2
  go_ret;exact⟨zz2,zz4⟩
 ·replace c4:=Bool.eq_false_iff.mpr c4;subst c4;rw[if_neg Bool.false_ne_true]at H;replace H:=Option.bind_eq_some_iff.mp H;obtain⟨t431,A50,H⟩:=H;(try dsimp only at H);have A5:=Aside0.mk A50;clear A50;have HC6:=Aside0.mk H;clear H
  repeat' (first|(go_big_may;(first|(go_at_call 141;(with_reducible refine(impl_isUpper.calls a0 t431 _ A5.out).mono ?_);rintro e w' ⟨rfl,⟨nd,rfl⟩⟩)))|go_values|go_skip|go_big_skip|go_big_want|((first|(with_reducible refine gate_nog rfl ?_)|(fail_if_success with_reducible refine gate_any ?_));go_step)|go_upon|simp only[Bool.not_true,Bool.not_false,Bool.true_and,Bool.false_and,Bool.true_or,Bool.false_or]|dsimp only)
  (try simp only[Act.put,List.setIfInBounds_toArray,List.set_cons_zero,List.set_cons_succ]);have H:=HC6.out;clear HC6
  by_cases c7:t431=true
  ·subst c7;rw[if_pos rfl]at H;obtain rfl:=Option.some.inj H;go_wp2
   go_ret;exact⟨zz2,zz4⟩
  ·replace c7:=Bool.eq_false_iff.mpr c7;subst c7;rw[if_neg Bool.false_ne_true]at H;replace H:=Option.bind_eq_some_iff.mp H;obtain⟨t432,A80,H⟩:=H;(try dsimp only at H);have A8:=Aside0.mk A80;clear A80;have HC9:=Aside0.mk H;clear H
   repeat' (first|(go_big_may;(first|(go_at_call 82;(with_reducible refine(impl_isDigit.calls a0 t432 _ A8.out).mono ?_);rintro e w' ⟨rfl,⟨nd,rfl⟩⟩)))|go_values|go_skip|go_big_skip|go_big_want|((first|(with_reducible refine gate_nog rfl ?_)|(fail_if_success with_reducible refine gate_any ?_));go_step)|go_upon|simp only[Bool.not_true,Bool.not_false,Bool.true_and,Bool.false_and,Bool.true_or,Bool.false_or]|dsimp only)
   (try simp only[Act.put,List.setIfInBounds_toArray,List.set_cons_zero,List.set_cons_succ]);have H:=HC9.out;clear HC9
   by_cases c10:t432=true
   ·subst c10;rw[if_pos rfl]at H;obtain rfl:=Option.some.inj H;go_wp2
    go_ret;exact⟨zz2,zz4⟩
   ·replace c10:=Bool.eq_false_iff.mpr c10;subst c10;rw[if_neg Bool.false_ne_true]at H
    by_cases c11:a0=96
    ·rw[if_pos c11]at H;have c11b0:(a0==96)=true:=beq_iff_eq.mpr c11;have c11b1:(a0 !=96)=false:=bne_eq_false_iff_eq.mpr c11;clear c11;(first|rw[c11b0]|(simp only[i64_w,i32_w];rw[c11b0])|rw[c11b1]|(rw[c11b2];simp only[Bool.not_true,Bool.not_false])|skip);obtain rfl:=Option.some.inj H;go_wp2
     go_ret;exact⟨zz2,zz4⟩
    ·rw[if_neg c11]at H;have c11b0:(a0==96)=false:=beq_eq_false_iff_ne.mpr c11;have c11b1:(a0 !=96)=true:=bne_iff_ne.mpr c11;(first|rw[c11b0]|(simp only[i64_w,i32_w];rw[c11b0])|rw[c11b1]|(rw[c11b2];simp only[Bool.not_true,Bool.not_false])|skip);replace H:=Option.bind_eq_some_iff.mp H;obtain⟨t433,A120,H⟩:=H;(try dsimp only at H);have A12:=Aside0.mk A120;clear A120;obtain rfl:=Option.some.inj H;go_wp2_with (first|(go_at_call 105;(with_reducible refine(strings_IndexByte.calls (⟨#[33,35,36,37,38,39,42,43,45,46,94,95,124,126]⟩:ByteArray) a0 t433 _ A12.out).mono ?_);rintro e w' ⟨rfl,⟨nd,rfl⟩⟩))
     go_ret;exact⟨zz2,zz4⟩
def impl_all__impl_isTokenByte.l0:Nat→ByteArray→Int→Option (Bool)
 |0,_,_=>none
 |k+1,x0,x5=>if x5<(x0.size:Int)then(if 0≤x5 then((impl_isTokenByte.f (bt x0 x5)).bind fun t434=>(if t434=true then(impl_all__impl_isTokenByte.l0 k x0 (wrap64 (x5+1)))else(some false)))else(none))else(some true)
def impl_all__impl_isTokenByte.f (k:Nat) (a0:ByteArray):Option (Bool):=impl_all__impl_isTokenByte.l0 k a0 0
theorem impl_all__impl_isTokenByte.calls (k:Nat) (a0:ByteArray) (r:Bool) (w:World) (h:impl_all__impl_isTokenByte.f k a0=some r):
  Calls Tryz.prog 81 #[.string a0,.func (.func 107) #[] #[]] w fun e w'=>e= .returned (.bool r)∧Drawn0 w w':=by
 have H:(impl_all__impl_isTokenByte.l0 k a0 0)=some r:=h;clear h;have H':=Aside0.mk H;clear H;go_enter Tryz.func81,Tryz.ntmps81
 go_wp2
 go_loopg [5] k (fun kq v5 w'=> ∃(x5_1:Int),v5= .int .i64 x5_1∧Aside0 (impl_all__impl_isTokenByte.l0 kq a0 x5_1=some r)∧Aside0 (kq≤k)∧Drawn0 w w')
 case atStart=>exact⟨(0),zz2,H',⟨Nat.le_refl _⟩,zz4⟩
 case round=>
  clear H';obtain⟨x5_1,rfl,HA,HK1,⟨m1,rfl⟩⟩:=hrel
  cases gk with
  |zero=>exact absurd HA.out (by simp[impl_all__impl_isTokenByte.l0])
  |succ k1=>
   have H:=HA.out;clear HA;simp only[impl_all__impl_isTokenByte.l0]at H
   by_cases c2:x5_1<(a0.size:Int)
   ·rw[if_pos c2]at H;have c2b0:decide (x5_1<(a0.size:Int))=true:=decide_eq_true c2;clear c2
    by_cases c3:0≤x5_1
    ·rw[if_pos c3]at H;have c3b0:decide (0≤x5_1)=true:=decide_eq_true c3;clear c3;replace H:=Option.bind_eq_some_iff.mp H;obtain⟨t434,A50,H⟩:=H;(try dsimp only at H);have A5:=Aside0.mk A50;clear A50;have HC6:=Aside0.mk H;clear H;have p4:0≤(x5_1:Int):=of_decide_eq_true zz3;have q4:x5_1<(a0.size:Int):=of_decide_eq_true zz3;have hx4:=bt_at a0 x5_1;replace p4:=eq_true p4;replace q4:=eq_true q4;go_upto_if 17 with(first|(go_at_call 107;(with_reducible refine(impl_isTokenByte.calls (bt a0 x5_1) t434 _ A5.out).mono ?_);rintro e w' ⟨rfl,⟨nd,rfl⟩⟩))
     (try simp only[Act.put,List.setIfInBounds_toArray,List.set_cons_zero,List.set_cons_succ]);have H:=HC6.out;clear HC6
     by_cases c7:t434=true
     ·subst c7;rw[if_pos rfl]at H;have H':=Aside0.mk H;clear H;go_wp2
      go_roundg k1
      (case measure=>have:=HK1.out;omega);case rel=>exact⟨(wrap64 (x5_1+1)),zz2,H',⟨zz50⟩,zz4⟩
     ·replace c7:=Bool.eq_false_iff.mpr c7;subst c7;rw[if_neg Bool.false_ne_true]at H;obtain rfl:=Option.some.inj H;go_wp2
      go_ret;exact⟨zz2,zz4⟩
    ·rw[if_neg c3]at H;exact absurd H (by simp)
   ·rw[if_neg c2]at H;have c2b0:decide (x5_1<(a0.size:Int))=false:=decide_eq_false c2;clear c2;obtain rfl:=Option.some.inj H;go_wp2
    go_ret;exact⟨zz2,zz4⟩
def impl_Token.f (k:Nat) (a0:ByteArray):Option (Bool):=(impl_within.f (a0.size:Int) 1 4000).bind fun t435=>(if t435=true then((impl_all__impl_isTokenByte.f k a0).bind fun t436=>(some t436))else(some false))
theorem impl_Token.calls (k:Nat) (a0:ByteArray) (r:Bool) (w:World) (h:impl_Token.f k a0=some r):
  Calls Tryz.prog 68 #[.string a0] w fun e w'=>e= .returned (.bool r)∧Drawn0 w w':=by
 have H:((impl_within.f (a0.size:Int) 1 4000).bind fun t435=>(if t435=true then((impl_all__impl_isTokenByte.f k a0).bind fun t436=>(some t436))else(some false)))=some r:=h;clear h;replace H:=Option.bind_eq_some_iff.mp H;obtain⟨t435,A20,H⟩:=H;(try dsimp only at H);have A2:=Aside0.mk A20;clear A20;have HC3:=Aside0.mk H;clear H;go_enter Tryz.func68,Tryz.ntmps68
 repeat' (first|(go_big_may;(first|((with_reducible refine gate_callee (f:=40) rfl ?_);refine goesR_ 5 Tryz.func40 #[.int .i64 (a0.size:Int),.int .i64 1,.int .i64 4000] (impl_within.calls (a0.size:Int) 1 4000 t435 _ A2.out) ?_;rintro w' ⟨nd,rfl⟩)))|go_values|go_skip|go_big_skip|go_big_want|((first|(with_reducible refine gate_nog rfl ?_)|(fail_if_success with_reducible refine gate_any ?_));go_step)|go_upon|simp only[Bool.not_true,Bool.not_false,Bool.true_and,Bool.false_and,Bool.true_or,Bool.false_or]|dsimp only)
 (try simp only[Act.put,List.setIfInBounds_toArray,List.set_cons_zero,List.set_cons_succ]);have H:=HC3.out;clear HC3
 by_cases c4:t435=true
 ·subst c4;rw[if_pos rfl]at H;replace H:=Option.bind_eq_some_iff.mp H;obtain⟨t436,A50,H⟩:=H;(try dsimp only at H);have A5:=Aside0.mk A50;clear A50;obtain rfl:=Option.some.inj H;go_wp2_with (first|(go_at_call 81;(with_reducible refine(impl_all__impl_isTokenByte.calls k a0 t436 _ A5.out).mono ?_);rintro e w' ⟨rfl,⟨nd,rfl⟩⟩))
  go_ret;exact⟨zz2,zz4⟩
 ·replace c4:=Bool.eq_false_iff.mpr c4;subst c4;rw[if_neg Bool.false_ne_true]at H;obtain rfl:=Option.some.inj H;go_wp2
  go_ret;exact⟨zz2,zz4⟩
def impl_isMethod.f (k:Nat) (a0:ByteArray):Option (Bool):=(impl_Token.f k a0).bind fun t437=>(if t437=true then(some (decide ((a0.size:Int)≤20)))else(some false))
theorem impl_isMethod.calls (k:Nat) (a0:ByteArray) (r:Bool) (w:World) (h:impl_isMethod.f k a0=some r):
  Calls Tryz.prog 38 #[.string a0] w fun e w'=>e= .returned (.bool r)∧Drawn0 w w':=by
 have H:((impl_Token.f k a0).bind fun t437=>(if t437=true then(some (decide ((a0.size:Int)≤20)))else(some false)))=some r:=h;clear h;replace H:=Option.bind_eq_some_iff.mp H;obtain⟨t437,A20,H⟩:=H;(try dsimp only at H);have A2:=Aside0.mk A20;clear A20;have HC3:=Aside0.mk H;clear H;go_enter Tryz.func38,Tryz.ntmps38
 repeat' (first|(go_big_may;(first|((with_reducible refine gate_callee (f:=68) rfl ?_);refine goesR_ 4 Tryz.func68 #[.string a0] (impl_Token.calls k a0 t437 _ A2.out) ?_;rintro w' ⟨nd,rfl⟩)))|go_values|go_skip|go_big_skip|go_big_want|((first|(with_reducible refine gate_nog rfl ?_)|(fail_if_success with_reducible refine gate_any ?_));go_step)|go_upon|simp only[Bool.not_true,Bool.not_false,Bool.true_and,Bool.false_and,Bool.true_or,Bool.false_or]|dsimp only)
 (try simp only[Act.put,List.setIfInBounds_toArray,List.set_cons_zero,List.set_cons_succ]);have H:=HC3.out;clear HC3
 by_cases c4:t437=true
 ·subst c4;rw[if_pos rfl]at H;obtain rfl:=Option.some.inj H;go_wp2
  go_ret;exact⟨zz2,zz4⟩
 ·replace c4:=Bool.eq_false_iff.mpr c4;subst c4;rw[if_neg Bool.false_ne_true]at H;obtain rfl:=Option.some.inj H;go_wp2
  go_ret;exact⟨zz2,zz4⟩
end Go.Proofs.YteojcbbifacpnaaGreatDoor.GFnExactClosest
