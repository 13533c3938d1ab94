-- Printed by gen.py and its programs for this claim.
import Derived.Test.YteojcbbifacpnaaGreatDoorGFnExactReadLinex0
import Derived.Test.YteojcbbifacpnaaGreatDoorGFnExactReadLinex19
import Derived.Test.YteojcbbifacpnaaGreatDoorGFnExactReadLinex20
import Derived.Test.YteojcbbifacpnaaGreatDoorGFnExactReadLinex21
import Derived.Test.YteojcbbifacpnaaGreatDoorGFnExactReadLinex26
import Derived.Test.YteojcbbifacpnaaGreatDoorZFnExactReadLine
namespace Go.Proofs.YteojcbbifacpnaaGreatDoor.GFnExactReadLine
open Go.RowKit Go.Proofs.YteojcbbifacpnaaGreatDoorW.PrintWords Go.Proofs.YteojcbbifacpnaaGreatDoorW.PrintLast Go.Proofs.YteojcbbifacpnaaGreatDoorW.PrintMore Go.Proofs.YteojcbbifacpnaaGreatDoorW.Zs
set_option maxHeartbeats 40000000
set_option maxRecDepth 100000
attribute [local go_sem] zL qL xN zN qK xK xL jL
set_option linter.unusedVariables false
set_option linter.unusedSimpArgs false
mutual
def yJ.l0:Nat→ByteArray→List Int→Int→Int→Int→Option (ByteArray)
 |0,_,_,_,_,_=>none
 |k+1,x0,x3,x4,x5,x6=>if x6<(x0.size:Int)then(if 0≤x6 then(yJ.l1 k x0 x3 (Go.bits .or .i64 (wrap64 (x4*256)) (wrap64 (bt x0 x6))) (wrap64 (x5+8)) x6)else(none))else(if x5>0 then(if 0≤(wrap64 (5-x5))then(if 0≤(Go.bits .and .i64 (shl .i64 x4 (wrap64 (5-x5))) 31)then(if(Go.bits .and .i64 (shl .i64 x4 (wrap64 (5-x5))) 31)<32 then(if x3.length<140737488355328 then(some (strOfNums (x3++ [bt (⟨#[65,66,67,68,69,70,71,72,73,74,75,76,77,78,79,80,81,82,83,84,85,86,87,88,89,90,50,51,52,53,54,55]⟩:ByteArray) (Go.bits .and .i64 (shl .i64 x4 (wrap64 (5-x5))) 31)])))else(none))else(none))else(none))else(none))else(some (strOfNums x3)))
def yJ.l1:Nat→ByteArray→List Int→Int→Int→Int→Option (ByteArray)
 |0,_,_,_,_,_=>none
 |k+1,x0,x3,x4,x5,x6=>if x5≥5 then(if 0≤(wrap64 (x5-5))then(if 0≤(Go.bits .and .i64 (shr .i64 x4 (wrap64 (x5-5))) 31)then(if(Go.bits .and .i64 (shr .i64 x4 (wrap64 (x5-5))) 31)<32 then(if x3.length<140737488355328 then(yJ.l1 k x0 (x3++ [bt (⟨#[65,66,67,68,69,70,71,72,73,74,75,76,77,78,79,80,81,82,83,84,85,86,87,88,89,90,50,51,52,53,54,55]⟩:ByteArray) (Go.bits .and .i64 (shr .i64 x4 (wrap64 (x5-5))) 31)]) x4 (wrap64 (x5-5)) x6)else(none))else(none))else(none))else(none))else(yJ.l0 k x0 x3 (Go.bits .and .i64 x4 31) x5 (wrap64 (x6+1)))
end
def yJ.f (k:Nat) (a0:ByteArray):Option (ByteArray):=yJ.l0 k a0 ([]:List Int) 0 0 0
theorem yJ.calls (k:Nat) (a0 r:ByteArray) (w:World) (h:yJ.f k a0=some r):
  Calls Tryz.prog 106 #[.string a0] w fun e w'=>e= .returned (.string r)∧Below w.heap.size w w':=by
 have HB:=am_ (Below.refl w.heap.size w);have H:(yJ.l0 k a0 ([]:List Int) 0 0 0)=some r:=h;clear h;have H':=am_ H;clear H;go_enter Tryz.func106,Tryz.ntmps106
 go_wp2
 go_loopg [3,4,5,6] k (fun kq v3 v4 v5 v6 w'=> ∃(x3_1:List Int) (x4_1 x5_1 x6_1:Int),v4= .int .i64 x4_1∧v5= .int .i64 x5_1∧v6= .int .i64 x6_1∧wA (yJ.l0 kq a0 x3_1 x4_1 x5_1 x6_1=some r)∧wA (kq≤k)∧wA (Kd.R (Kd.int .u8) 5 w' w.heap.size (fun _=>True) v3 x3_1)∧wA (Below w.heap.size w w'))
 case atStart=>exact⟨(([]:List Int)),(0),(0),(0),vB,vB,vB,H',⟨Nat.le_refl _⟩,⟨zz44⟩,⟨zz0⟩⟩
 case round=>
  clear H';(try clear c1);obtain⟨x3_1,x4_1,x5_1,x6_1,rfl,rfl,rfl,HA,HK1,HO_3,HB⟩:=hrel
  cases gk with
  |zero=>exact absurd HA.out (by simp[yJ.l0])
  |succ k1=>
   have H:=HA.out;clear HA;simp only[yJ.l0]at H
   by_cases c2:x6_1<(a0.size:Int)
   ·rw[if_pos c2]at H;have c2b0:=dt_ c2;clear c2
    by_cases c3:0≤x6_1
    ·rw[if_pos c3]at H;have c3b0:=dt_ c3;clear c3;have H':=am_ H;clear H;have p4:0≤(x6_1:Int):=od_ zz5;have q4:x6_1<(a0.size:Int):=od_ zz5;have hx4:=wP a0 x6_1;replace p4:=eq_true p4;replace q4:=eq_true q4;go_wp2
     go_loopg [3,5] k1 (fun kq v3 v5 w'=> ∃(x3_2:List Int) (x5_2:Int),v5= .int .i64 x5_2∧wA (yJ.l1 kq a0 x3_2 (Go.bits .or .i64 (wrap64 (x4_1*256)) (wrap64 (bt a0 x6_1))) x5_2 x6_1=some r)∧wA (kq≤k1)∧wA (Kd.R (Kd.int .u8) 5 w' w.heap.size (fun _=>True) v3 x3_2)∧wA (Below w.heap.size w w'))
     case atStart=>exact⟨(x3_1),(wrap64 (x5_1+8)),vB,H',⟨Nat.le_refl _⟩,⟨xX⟩,⟨zz0⟩⟩
     case round=>
      clear H';(try clear c1);(try clear c2);(try clear c2b0);(try clear p2);(try clear c3);(try clear c3b0);(try clear p4);(try clear q4);(try clear hx4);(try clear p4);(try clear q4);obtain⟨x3_2,x5_2,rfl,HA,HK2,HO_3,HB⟩:=hrel
      cases gk with
      |zero=>exact absurd HA.out (by simp[yJ.l1])
      |succ k2=>
       have H:=HA.out;clear HA;simp only[yJ.l1]at H
       by_cases c5:x5_2≥5
       ·rw[if_pos c5]at H;have c5b0:decide (5≤x5_2)=true:=dt_ c5;clear c5;obtain⟨ji6,hji6⟩: ∃j_:Int,(wrap64 (x5_2-5))=j_:=⟨_,rfl⟩;replace H:(if 0≤(ji6)then(if 0≤(Go.bits .and .i64 (shr .i64 (Go.bits .or .i64 (wrap64 (x4_1*256)) (wrap64 (bt a0 x6_1))) (ji6)) 31)then(if(Go.bits .and .i64 (shr .i64 (Go.bits .or .i64 (wrap64 (x4_1*256)) (wrap64 (bt a0 x6_1))) (ji6)) 31)<32 then(if x3_2.length<140737488355328 then(yJ.l1 k2 a0 (x3_2++ [bt (⟨#[65,66,67,68,69,70,71,72,73,74,75,76,77,78,79,80,81,82,83,84,85,86,87,88,89,90,50,51,52,53,54,55]⟩:ByteArray) (Go.bits .and .i64 (shr .i64 (Go.bits .or .i64 (wrap64 (x4_1*256)) (wrap64 (bt a0 x6_1))) (ji6)) 31)]) (Go.bits .or .i64 (wrap64 (x4_1*256)) (wrap64 (bt a0 x6_1))) ji6 x6_1)else(none))else(none))else(none))else(none))=some r:=by first|(rw[hji6]at H;exact H)|(simp only[hji6]at H ⊢;exact H)
        have hji6w:(IntKind.i64.wrap (x5_2-5))=ji6:=(yC _).trans hji6
        by_cases c7:0≤(ji6)
        ·rw[if_pos c7]at H;have c7b0:=eq_true c7;have c7b1:=dt_ c7;clear c7;obtain⟨ji8,hji8⟩: ∃j_:Int,(shr .i64 (Go.bits .or .i64 (wrap64 (x4_1*256)) (wrap64 (bt a0 x6_1))) (ji6))=j_:=⟨_,rfl⟩;replace H:(if 0≤(Go.bits .and .i64 (ji8) 31)then(if(Go.bits .and .i64 (ji8) 31)<32 then(if x3_2.length<140737488355328 then(yJ.l1 k2 a0 (x3_2++ [bt (⟨#[65,66,67,68,69,70,71,72,73,74,75,76,77,78,79,80,81,82,83,84,85,86,87,88,89,90,50,51,52,53,54,55]⟩:ByteArray) (Go.bits .and .i64 (ji8) 31)]) (Go.bits .or .i64 (wrap64 (x4_1*256)) (wrap64 (bt a0 x6_1))) ji6 x6_1)else(none))else(none))else(none))=some r:=by first|(rw[hji8]at H;exact H)|(simp only[hji8]at H ⊢;exact H)
         have hji8_:((Go.bits .or .i64 (wrap64 (x4_1*256)) (wrap64 (bt a0 x6_1)))/2^min (ji6).toNat 64)=ji8:=hji8;have hji8z:(ji6)≤64→((Go.bits .or .i64 (wrap64 (x4_1*256)) (wrap64 (bt a0 x6_1)))/2^(ji6).toNat)=ji8:=bX4 hji8
         by_cases c9:0≤(Go.bits .and .i64 (ji8) 31)
         ·rw[if_pos c9]at H;have c9b0:=dt_ c9;clear c9
          by_cases c10:(Go.bits .and .i64 (ji8) 31)<32
          ·rw[if_pos c10]at H;have c10b0:=dt_ c10;clear c10
           by_cases c12:x3_2.length<140737488355328
           ·rw[if_pos c12]at H;have LMc12:=am_ c12;clear c12;obtain⟨y446,hy446⟩: ∃y_:List Int,y_=(x3_2++ [bt (⟨#[65,66,67,68,69,70,71,72,73,74,75,76,77,78,79,80,81,82,83,84,85,86,87,88,89,90,50,51,52,53,54,55]⟩:ByteArray) (Go.bits .and .i64 (ji8) 31)]):=⟨_,rfl⟩;replace H:(yJ.l1 k2 a0 y446 (Go.bits .or .i64 (wrap64 (x4_1*256)) (wrap64 (bt a0 x6_1))) ji6 x6_1)=some r:=by first|(rw[hy446];with_reducible exact H)|(have H2_:=(Option.bind_some _ _).symm.trans H;rw[hy446];with_reducible exact H2_)|(have H2_:=(Option.bind_some _ _).symm.trans H;with_reducible exact H2_)|with_reducible exact H|(rw[hy446];exact H)|exact H
            have Ny446:=am_ hy446;clear hy446;have H':=am_ H;clear H;have p11:0≤((Go.bits .and .i64 (ji8) 31):Int):=od_ zz5;have q11:(Go.bits .and .i64 (ji8) 31)<(32:Int):=od_ zz5;have hx11:=wP (⟨#[65,66,67,68,69,70,71,72,73,74,75,76,77,78,79,80,81,82,83,84,85,86,87,88,89,90,50,51,52,53,54,55]⟩:ByteArray) (Go.bits .and .i64 (ji8) 31);replace p11:=eq_true p11;replace q11:=eq_true q11;go_wp2_with (first|((with_reducible refine zO (b:= .append) (xs:= #[.tmp 26,.tmp 33]) rfl ?_);at_builtin;refine Kd.R_append (Kd.int .u8) (w0:=w) w.heap.size rfl (.tmp 26) (.tmp 33) 63 5 (.int .u8 0) 1 rfl Tryz.underlying63 info5 rfl (by decide) (by omega) u3 x3_2 (bt (⟨#[65,66,67,68,69,70,71,72,73,74,75,76,77,78,79,80,81,82,83,84,85,86,87,88,89,90,50,51,52,53,54,55]⟩:ByteArray) (Go.bits .and .i64 (ji8) 31)) [.int .u8 (bt (⟨#[65,66,67,68,69,70,71,72,73,74,75,76,77,78,79,80,81,82,83,84,85,86,87,88,89,90,50,51,52,53,54,55]⟩:ByteArray) (Go.bits .and .i64 (ji8) 31))] (fun _=>True) (fun _=>False) rfl rfl ?aP (fun _ hk=>hk.elim) ?aF ?aO ?aB ?aS ?aL ?_;(case aP=>exact rfl);(case aB=>exact zz0);(case aF=>exact(fun _ _=>trivial));(case aO=>exact xX);(case aS=>exact(zH zz0));(case aL=>have:=LMc12.out;omega);intro v447 w13 ho hb hg hat;rw[←Ny446.out]at ho;replace HB:=am_ (hb);have HO448:=am_ (ho);clear HO_3;clear ho hb hg hat))
            go_roundg k2
            (case measure=>have:=HK1.out;have:=HK2.out;omega);case rel=>exact⟨(y446),(ji6),(by first|rfl|(simp;done)|(simp only[←hji6]<;>(first|rfl|simp))|(simp[*];done)),H',⟨cW9⟩,⟨by(with_reducible repeat(first|apply Kd.R_alloc|apply Kd.R_drewN|apply Kd.R_drew));exact HO448.out⟩,⟨zz0⟩⟩
           ·rw[if_neg c12]at H;exact absurd H (by simp)
          ·rw[if_neg c10]at H;exact absurd H (by simp)
         ·rw[if_neg c9]at H;exact absurd H (by simp)
        ·rw[if_neg c7]at H;exact absurd H (by simp)
       ·rw[if_neg c5]at H;have c5b0:decide (5≤x5_2)=false:=df_ c5;clear c5;have H':=am_ H;clear H;go_wp2
        go_roundg k2
        (case measure=>have:=HK1.out;have:=HK2.out;omega);case rel=>exact⟨(x3_2),(Go.bits .and .i64 (Go.bits .or .i64 (wrap64 (x4_1*256)) (wrap64 (bt a0 x6_1))) 31),(x5_2),(wrap64 (x6_1+1)),vB,vB,vB,H',⟨cW9⟩,⟨xX⟩,⟨zz0⟩⟩
    ·rw[if_neg c3]at H;exact absurd H (by simp)
   ·rw[if_neg c2]at H;have c2b0:=df_ c2;clear c2
    by_cases c14:x5_1>0
    ·rw[if_pos c14]at H;have c14b0:decide (0<x5_1)=true:=dt_ c14;clear c14;obtain⟨ji15,hji15⟩: ∃j_:Int,(wrap64 (5-x5_1))=j_:=⟨_,rfl⟩;replace H:(if 0≤(ji15)then(if 0≤(Go.bits .and .i64 (shl .i64 x4_1 (ji15)) 31)then(if(Go.bits .and .i64 (shl .i64 x4_1 (ji15)) 31)<32 then(if x3_1.length<140737488355328 then(some (strOfNums (x3_1++ [bt (⟨#[65,66,67,68,69,70,71,72,73,74,75,76,77,78,79,80,81,82,83,84,85,86,87,88,89,90,50,51,52,53,54,55]⟩:ByteArray) (Go.bits .and .i64 (shl .i64 x4_1 (ji15)) 31)])))else(none))else(none))else(none))else(none))=some r:=by first|(rw[hji15]at H;exact H)|(simp only[hji15]at H ⊢;exact H)
     have hji15w:(IntKind.i64.wrap (5-x5_1))=ji15:=(yC _).trans hji15
     by_cases c16:0≤(ji15)
     ·rw[if_pos c16]at H;have c16b0:=eq_true c16;have c16b1:=dt_ c16;clear c16;obtain⟨ji17,hji17⟩: ∃j_:Int,(shl .i64 x4_1 (ji15))=j_:=⟨_,rfl⟩;replace H:(if 0≤(Go.bits .and .i64 (ji17) 31)then(if(Go.bits .and .i64 (ji17) 31)<32 then(if x3_1.length<140737488355328 then(some (strOfNums (x3_1++ [bt (⟨#[65,66,67,68,69,70,71,72,73,74,75,76,77,78,79,80,81,82,83,84,85,86,87,88,89,90,50,51,52,53,54,55]⟩:ByteArray) (Go.bits .and .i64 (ji17) 31)])))else(none))else(none))else(none))=some r:=by first|(rw[hji17]at H;exact H)|(simp only[hji17]at H ⊢;exact H)
      have hji17_:(IntKind.i64.wrap (x4_1*2^min (ji15).toNat 64))=ji17:=hji17;have hji17z:(ji15)≤64→(IntKind.i64.wrap (x4_1*2^(ji15).toNat))=ji17:=dJ9 hji17;have hji17y:(wrap64 (x4_1*2^min (ji15).toNat 64))=ji17:=(yC _).symm.trans hji17_;have hji17x:(ji15)≤64→(wrap64 (x4_1*2^(ji15).toNat))=ji17:=fun h_=>(yC _).symm.trans (hji17z h_)
      by_cases c18:0≤(Go.bits .and .i64 (ji17) 31)
      ·rw[if_pos c18]at H;have c18b0:=dt_ c18;clear c18
       by_cases c19:(Go.bits .and .i64 (ji17) 31)<32
       ·rw[if_pos c19]at H;have c19b0:=dt_ c19;clear c19
        by_cases c21:x3_1.length<140737488355328
        ·rw[if_pos c21]at H;have LMc21:=am_ c21;clear c21;obtain⟨y443,hy443⟩: ∃y_:List Int,y_=(x3_1++ [bt (⟨#[65,66,67,68,69,70,71,72,73,74,75,76,77,78,79,80,81,82,83,84,85,86,87,88,89,90,50,51,52,53,54,55]⟩:ByteArray) (Go.bits .and .i64 (ji17) 31)]):=⟨_,rfl⟩;replace H:(some (strOfNums y443))=some r:=by first|(rw[hy443];with_reducible exact H)|(have H2_:=(Option.bind_some _ _).symm.trans H;rw[hy443];with_reducible exact H2_)|(have H2_:=(Option.bind_some _ _).symm.trans H;with_reducible exact H2_)|with_reducible exact H|(rw[hy443];exact H)|exact H
         have Ny443:=am_ hy443;clear hy443;obtain rfl:=si_ H;have p20:0≤((Go.bits .and .i64 (ji17) 31):Int):=od_ zz5;have q20:(Go.bits .and .i64 (ji17) 31)<(32:Int):=od_ zz5;have hx20:=wP (⟨#[65,66,67,68,69,70,71,72,73,74,75,76,77,78,79,80,81,82,83,84,85,86,87,88,89,90,50,51,52,53,54,55]⟩:ByteArray) (Go.bits .and .i64 (ji17) 31);replace p20:=eq_true p20;replace q20:=eq_true q20;go_wp2_with (first|((with_reducible refine zO (b:= .append) (xs:= #[.tmp 39,.tmp 46]) rfl ?_);at_builtin;refine Kd.R_append (Kd.int .u8) (w0:=w) w.heap.size rfl (.tmp 39) (.tmp 46) 63 5 (.int .u8 0) 1 rfl Tryz.underlying63 info5 rfl (by decide) (by omega) u3 x3_1 (bt (⟨#[65,66,67,68,69,70,71,72,73,74,75,76,77,78,79,80,81,82,83,84,85,86,87,88,89,90,50,51,52,53,54,55]⟩:ByteArray) (Go.bits .and .i64 (ji17) 31)) [.int .u8 (bt (⟨#[65,66,67,68,69,70,71,72,73,74,75,76,77,78,79,80,81,82,83,84,85,86,87,88,89,90,50,51,52,53,54,55]⟩:ByteArray) (Go.bits .and .i64 (ji17) 31))] (fun _=>True) (fun _=>False) rfl rfl ?aP (fun _ hk=>hk.elim) ?aF ?aO ?aB ?aS ?aL ?_;(case aP=>exact rfl);(case aB=>exact zz0);(case aF=>exact(fun _ _=>trivial));(case aO=>exact xX);(case aS=>exact(zH zz0));(case aL=>have:=LMc21.out;omega);intro v444 w22 ho hb hg hat;rw[←Ny443.out]at ho;replace HB:=am_ (hb);have HO445:=am_ (ho);clear HO_3;clear ho hb hg hat;have hcv23:=kS (P:=Tryz.prog) Tryz.underlying63 Tryz.underlying5 Tryz.underlying9 (Kd.own_of_R HO445.out)))
         go_ret;exact⟨by first|rfl|(simp[errW_none,errW_some]<;>rfl)|(simp only[←hji15,←hji17];first|rfl|(simp[errW_none,errW_some]<;>rfl))|(simp[*,errW_none,errW_some]<;>rfl),zz0⟩
        ·rw[if_neg c21]at H;exact absurd H (by simp)
       ·rw[if_neg c19]at H;exact absurd H (by simp)
      ·rw[if_neg c18]at H;exact absurd H (by simp)
     ·rw[if_neg c16]at H;exact absurd H (by simp)
    ·rw[if_neg c14]at H;have c14b0:decide (0<x5_1)=false:=df_ c14;clear c14;obtain rfl:=si_ H;have hcv24:=kS (P:=Tryz.prog) Tryz.underlying63 Tryz.underlying5 Tryz.underlying9 (Kd.own_of_R HO_3.out);go_wp2
     go_ret;exact⟨zz1,zz0⟩
def wF.l0:Nat→ByteArray→List Int→Int→Int→Int→Option (ByteArray×Bool)
 |0,_,_,_,_,_=>none
 |k+1,x0,x4,x5,x6,x7=>if x7<(x0.size:Int)then(if 0≤x7 then((strings_IndexByte.f (⟨#[65,66,67,68,69,70,71,72,73,74,75,76,77,78,79,80,81,82,83,84,85,86,87,88,89,90,50,51,52,53,54,55]⟩:ByteArray) (bt x0 x7)).bind fun t450=>(if t450<0 then(some ((⟨#[]⟩:ByteArray),false))else(if(wrap64 (x6+5))≥8 then(if 0≤(wrap64 ((wrap64 (x6+5))-8))then(if x4.length<140737488355328 then(wF.l0 k x0 (x4++ [(shr .i64 (Go.bits .and .i64 (Go.bits .or .i64 (wrap64 (x5*32)) t450) 4095) (wrap64 ((wrap64 (x6+5))-8)))%256]) (Go.bits .and .i64 (Go.bits .or .i64 (wrap64 (x5*32)) t450) 4095) (wrap64 ((wrap64 (x6+5))-8)) (wrap64 (x7+1)))else(none))else(none))else(wF.l0 k x0 x4 (Go.bits .and .i64 (Go.bits .or .i64 (wrap64 (x5*32)) t450) 4095) (wrap64 (x6+5)) (wrap64 (x7+1))))))else(none))else(if(x4.length:Int)>4000 then(some ((⟨#[]⟩:ByteArray),false))else((yJ.f k (strOfNums x4)).bind fun t449=>(if t449.toList=x0.toList then(some (strOfNums x4,true))else(some ((⟨#[]⟩:ByteArray),false)))))
def wF.f (k:Nat) (a0:ByteArray):Option (ByteArray×Bool):=wF.l0 k a0 ([]:List Int) 0 0 0
theorem wF.calls (k:Nat) (a0 r1:ByteArray) (r2:Bool) (w:World) (h:wF.f k a0=some (r1,r2)):
  Calls Tryz.prog 67 #[.string a0] w fun e w'=>e= .returned (.tuple #[.string r1,.bool r2])∧Below w.heap.size w w':=by
 have HB:=am_ (Below.refl w.heap.size w);have H:(wF.l0 k a0 ([]:List Int) 0 0 0)=some (r1,r2):=h;clear h;have H':=am_ H;clear H;go_enter Tryz.func67,Tryz.ntmps67
 go_wp2
 go_loopg [4,5,6,7] k (fun kq v4 v5 v6 v7 w'=> ∃(x4_1:List Int) (x5_1 x6_1 x7_1:Int),v5= .int .i64 x5_1∧v6= .int .i64 x6_1∧v7= .int .i64 x7_1∧wA (wF.l0 kq a0 x4_1 x5_1 x6_1 x7_1=some (r1,r2))∧wA (kq≤k)∧wA (Kd.R (Kd.int .u8) 5 w' w.heap.size (fun _=>True) v4 x4_1)∧wA (Below w.heap.size w w'))
 case atStart=>exact⟨(([]:List Int)),(0),(0),(0),vB,vB,vB,H',⟨Nat.le_refl _⟩,⟨zz44⟩,⟨zz0⟩⟩
 case round=>
  clear H';obtain⟨x4_1,x5_1,x6_1,x7_1,rfl,rfl,rfl,HA,HK1,HO_4,HB⟩:=hrel
  cases gk with
  |zero=>exact absurd HA.out (by simp[wF.l0])
  |succ k1=>
   have H:=HA.out;clear HA;simp only[wF.l0]at H
   by_cases c2:x7_1<(a0.size:Int)
   ·rw[if_pos c2]at H;have c2b0:=dt_ c2;clear c2
    by_cases c3:0≤x7_1
    ·rw[if_pos c3]at H;have c3b0:=dt_ c3;clear c3;replace H:=be_ H;obtain⟨t450,A50,H⟩:=H;(try dsimp only at H);have A5:=am_ A50;clear A50;have HC6:=am_ H;clear H;have p4:0≤(x7_1:Int):=od_ zz5;have q4:x7_1<(a0.size:Int):=od_ zz5;have hx4:=wP a0 x7_1;replace p4:=eq_true p4;replace q4:=eq_true q4;go_upto_if 20 with(first|((with_reducible refine zB (f:=105) rfl ?_);refine jG 18 Tryz.func105 #[.string (⟨#[65,66,67,68,69,70,71,72,73,74,75,76,77,78,79,80,81,82,83,84,85,86,87,88,89,90,50,51,52,53,54,55]⟩:ByteArray),.int .u8 (bt a0 x7_1)] (strings_IndexByte.calls (⟨#[65,66,67,68,69,70,71,72,73,74,75,76,77,78,79,80,81,82,83,84,85,86,87,88,89,90,50,51,52,53,54,55]⟩:ByteArray) (bt a0 x7_1) t450 _ A5.out) ?_;rintro w' ⟨nd,rfl⟩))
     (try simp only[Act.put,List.setIfInBounds_toArray,List.set_cons_zero,List.set_cons_succ]);(try(rw[jJ wr];generalize hq_:World.drewN wr _=wr;have n0_:wA (Kd.R (Kd.int .u8) 5 wr w.heap.size (fun _=>True) u4 x4_1):=⟨by rw[←hq_];exact aZ7⟩;have n1_:wA (Below w.heap.size w wr):=⟨cQ1⟩;clear HO_4 HB hq_;have HO_4:=n0_;have HB:=n1_;clear n0_ n1_));have H:=HC6.out;clear HC6
     by_cases c7:t450<0
     ·rw[if_pos c7]at H;have c7b0:=dt_ c7;clear c7;(first|rw[c7b0]|(simp only[yC,qD];rw[c7b0])|skip);simp only[Option.some.injEq,Prod.mk.injEq]at H;obtain⟨rfl,rfl⟩:=H;go_wp2
      go_ret2
      exact⟨zz1,zz0⟩
     ·rw[if_neg c7]at H;have c7b0:=df_ c7;clear c7;(first|rw[c7b0]|(simp only[yC,qD];rw[c7b0])|skip)
      by_cases c8:(wrap64 (x6_1+5))≥8
      ·rw[if_pos c8]at H;have c8b0:decide (8≤(wrap64 (x6_1+5)))=true:=dt_ c8;clear c8;obtain⟨ji9,hji9⟩: ∃j_:Int,(wrap64 ((wrap64 (x6_1+5))-8))=j_:=⟨_,rfl⟩;replace H:(if 0≤(ji9)then(if x4_1.length<140737488355328 then(wF.l0 k1 a0 (x4_1++ [(shr .i64 (Go.bits .and .i64 (Go.bits .or .i64 (wrap64 (x5_1*32)) t450) 4095) (ji9))%256]) (Go.bits .and .i64 (Go.bits .or .i64 (wrap64 (x5_1*32)) t450) 4095) ji9 (wrap64 (x7_1+1)))else(none))else(none))=some (r1,r2):=by first|(rw[hji9]at H;exact H)|(simp only[hji9]at H ⊢;exact H)
       have hji9w:(IntKind.i64.wrap ((wrap64 (x6_1+5))-8))=ji9:=(yC _).trans hji9
       by_cases c10:0≤(ji9)
       ·rw[if_pos c10]at H;have c10b0:=eq_true c10;have c10b1:=dt_ c10;clear c10;obtain⟨ji11,hji11⟩: ∃j_:Int,(shr .i64 (Go.bits .and .i64 (Go.bits .or .i64 (wrap64 (x5_1*32)) t450) 4095) (ji9))=j_:=⟨_,rfl⟩;replace H:(if x4_1.length<140737488355328 then(wF.l0 k1 a0 (x4_1++ [(ji11)%256]) (Go.bits .and .i64 (Go.bits .or .i64 (wrap64 (x5_1*32)) t450) 4095) ji9 (wrap64 (x7_1+1)))else(none))=some (r1,r2):=by first|(rw[hji11]at H;exact H)|(simp only[hji11]at H ⊢;exact H)
        have hji11_:((Go.bits .and .i64 (Go.bits .or .i64 (wrap64 (x5_1*32)) t450) 4095)/2^min (ji9).toNat 64)=ji11:=hji11;have hji11z:(ji9)≤64→((Go.bits .and .i64 (Go.bits .or .i64 (wrap64 (x5_1*32)) t450) 4095)/2^(ji9).toNat)=ji11:=bX4 hji11
        by_cases c12:x4_1.length<140737488355328
        ·rw[if_pos c12]at H;have LMc12:=am_ c12;clear c12;obtain⟨y451,hy451⟩: ∃y_:List Int,y_=(x4_1++ [(ji11)%256]):=⟨_,rfl⟩;replace H:(wF.l0 k1 a0 y451 (Go.bits .and .i64 (Go.bits .or .i64 (wrap64 (x5_1*32)) t450) 4095) ji9 (wrap64 (x7_1+1)))=some (r1,r2):=by first|(rw[hy451];with_reducible exact H)|(have H2_:=(Option.bind_some _ _).symm.trans H;rw[hy451];with_reducible exact H2_)|(have H2_:=(Option.bind_some _ _).symm.trans H;with_reducible exact H2_)|with_reducible exact H|(rw[hy451];exact H)|exact H
         have Ny451:=am_ hy451;clear hy451;have H':=am_ H;clear H;go_wp2_with (first|((with_reducible refine zO (b:= .append) (xs:= #[.tmp 32,.tmp 37]) rfl ?_);at_builtin;refine Kd.R_append (Kd.int .u8) (w0:=w) w.heap.size rfl (.tmp 32) (.tmp 37) 63 5 (.int .u8 0) 1 rfl Tryz.underlying63 info5 rfl (by decide) (by omega) u4 x4_1 ((ji11)%256) [.int .u8 ((ji11)%256)] (fun _=>True) (fun _=>False) rfl rfl ?aP (fun _ hk=>hk.elim) ?aF ?aO ?aB ?aS ?aL ?_;(case aP=>exact rfl);(case aB=>exact zz0);(case aF=>exact(fun _ _=>trivial));(case aO=>exact aZ7);(case aS=>exact(zH zz0));(case aL=>have:=LMc12.out;omega);intro v452 w13 ho hb hg hat;rw[←Ny451.out]at ho;replace HB:=am_ (hb);have HO453:=am_ (ho);clear HO_4;clear ho hb hg hat))
         go_roundg k1
         (case measure=>have:=HK1.out;omega);case rel=>exact⟨(y451),(Go.bits .and .i64 (Go.bits .or .i64 (wrap64 (x5_1*32)) t450) 4095),(ji9),(wrap64 (x7_1+1)),vB,(by first|rfl|(simp;done)|(simp only[←hji9]<;>(first|rfl|simp))|(simp[*];done)),vB,H',⟨aJ5⟩,⟨by(with_reducible repeat(first|apply Kd.R_alloc|apply Kd.R_drewN|apply Kd.R_drew));exact HO453.out⟩,⟨zz0⟩⟩
        ·rw[if_neg c12]at H;exact absurd H (by simp)
       ·rw[if_neg c10]at H;exact absurd H (by simp)
      ·rw[if_neg c8]at H;have c8b0:decide (8≤(wrap64 (x6_1+5)))=false:=df_ c8;clear c8;have H':=am_ H;clear H;go_wp2
       go_roundg k1
       (case measure=>have:=HK1.out;omega);case rel=>exact⟨(x4_1),(Go.bits .and .i64 (Go.bits .or .i64 (wrap64 (x5_1*32)) t450) 4095),(wrap64 (x6_1+5)),(wrap64 (x7_1+1)),vB,vB,vB,H',⟨aJ5⟩,⟨aZ7⟩,⟨zz0⟩⟩
    ·rw[if_neg c3]at H;exact absurd H (by simp)
   ·rw[if_neg c2]at H;have c2b0:=df_ c2;clear c2;have HC14:=am_ H;clear H;obtain⟨Ao15,co15,eo15⟩:=Kd.R_slice HO_4.out;subst eo15
    repeat' (first|(go_big_may;(fail))|go_values|go_skip|go_big_skip|go_big_want|((first|(with_reducible refine wE rfl ?_)|(fail_if_success with_reducible refine yE ?_));go_step)|go_upon|simp only[Bool.not_true,Bool.not_false,Bool.true_and,Bool.false_and,Bool.true_or,Bool.false_or]|dsimp only)
    have H:=HC14.out;clear HC14
    by_cases c16:(x4_1.length:Int)>4000
    ·rw[if_pos c16]at H;have c16b0:decide (4000<(x4_1.length:Int))=true:=dt_ c16;have c16b1:decide (4000<x4_1.length)=true:=dt_ (by omega);clear c16;(first|rw[c16b0]|(simp only[yC,qD];rw[c16b0])|rw[c16b1]|(rw[c16b2];simp only[Bool.not_true,Bool.not_false])|skip);simp only[Option.some.injEq,Prod.mk.injEq]at H;obtain⟨rfl,rfl⟩:=H;go_wp2
     go_ret2
     exact⟨zz1,zz0⟩
    ·rw[if_neg c16]at H;have c16b0:decide (4000<(x4_1.length:Int))=false:=df_ c16;have c16b1:decide (4000<x4_1.length)=false:=df_ (by omega);clear c16;(first|rw[c16b0]|(simp only[yC,qD];rw[c16b0])|rw[c16b1]|(rw[c16b2];simp only[Bool.not_true,Bool.not_false])|skip);replace H:=be_ H;obtain⟨t449,A170,H⟩:=H;(try dsimp only at H);have A17:=am_ A170;clear A170;have HC18:=am_ H;clear H;have hcv19:=kS (P:=Tryz.prog) Tryz.underlying63 Tryz.underlying5 Tryz.underlying9 (Kd.own_of_R HO_4.out);go_upto_if 48 with(first|(go_at_call 106;(with_reducible refine(yJ.calls k1 (strOfNums x4_1) t449 _ A17.out).mono ?_);rintro e w20 ⟨rfl,hb⟩;have n0_:=am_ (Kd.R_below aZ7 hb);have n1_:=am_ (kA zz0 hb);clear HO_4;clear HB;have HO_4:=n0_;have HB:=n1_;clear n0_ n1_;(try clear hb);(try clear hb2);(try clear hk);(try clear hi)))
     (try simp only[Act.put,List.setIfInBounds_toArray,List.set_cons_zero,List.set_cons_succ]);have H:=HC18.out;clear HC18
     by_cases c21:t449.toList=a0.toList
     ·rw[if_pos c21]at H;have c21b0:(t449.toList==a0.toList)=true:=beq_iff_eq.mpr c21;have c21b1:(t449.toList !=a0.toList)=false:=bne_eq_false_iff_eq.mpr c21;clear c21;(first|rw[c21b0]|(simp only[yC,qD];rw[c21b0])|rw[c21b1]|(rw[c21b2];simp only[Bool.not_true,Bool.not_false])|skip);simp only[Option.some.injEq,Prod.mk.injEq]at H;obtain⟨rfl,rfl⟩:=H;have hcv22:=kS (P:=Tryz.prog) Tryz.underlying63 Tryz.underlying5 Tryz.underlying9 (Kd.own_of_R HO_4.out);go_wp2
      go_ret2
      exact⟨zz1,zz0⟩
     ·rw[if_neg c21]at H;have c21b0:(t449.toList==a0.toList)=false:=beq_eq_false_iff_ne.mpr c21;have c21b1:(t449.toList !=a0.toList)=true:=bne_iff_ne.mpr c21;(first|rw[c21b0]|(simp only[yC,qD];rw[c21b0])|rw[c21b1]|(rw[c21b2];simp only[Bool.not_true,Bool.not_false])|skip);simp only[Option.some.injEq,Prod.mk.injEq]at H;obtain⟨rfl,rfl⟩:=H;go_wp2
      go_ret2
      exact⟨zz1,zz0⟩
def vU.f (k:Nat) (a0:ByteArray):Option (ByteArray×Bool):=(strings_CutPrefix.f a0 (⟨#[115,104,97,49,58]⟩:ByteArray)).bind fun bt454=>(if bt454.2=true then(if(bt454.1.size:Int)=32 then((wF.f k bt454.1).bind fun bt456=>(some (bt456.1,bt456.2)))else(some ((⟨#[]⟩:ByteArray),false)))else(some ((⟨#[]⟩:ByteArray),false)))
theorem vU.calls (k:Nat) (a0 r1:ByteArray) (r2:Bool) (w:World) (h:vU.f k a0=some (r1,r2)):
  Calls Tryz.prog 35 #[.string a0] w fun e w'=>e= .returned (.tuple #[.string r1,.bool r2])∧Below w.heap.size w w':=by
 have HB:=am_ (Below.refl w.heap.size w);have H:((strings_CutPrefix.f a0 (⟨#[115,104,97,49,58]⟩:ByteArray)).bind fun bt454=>(if bt454.2=true then(if(bt454.1.size:Int)=32 then((wF.f k bt454.1).bind fun bt456=>(some (bt456.1,bt456.2)))else(some ((⟨#[]⟩:ByteArray),false)))else(some ((⟨#[]⟩:ByteArray),false))))=some (r1,r2):=h;clear h;replace H:=be_ H;obtain⟨⟨t454,t455⟩,A20,H⟩:=H;(try dsimp only at H);have A2:=am_ A20;clear A20
 by_cases c3:t455=true
 ·subst c3;rw[if_pos rfl]at H
  by_cases c4:(t454.size:Int)=32
  ·rw[if_pos c4]at H;have c4b0:((t454.size:Int)==32)=true:=beq_iff_eq.mpr c4;have c4b1:((t454.size:Int)!=32)=false:=bne_eq_false_iff_eq.mpr c4;clear c4;replace H:=be_ H;obtain⟨⟨t456,t457⟩,A50,H⟩:=H;(try dsimp only at H);have A5:=am_ A50;clear A50;simp only[Option.some.injEq,Prod.mk.injEq]at H;obtain⟨rfl,rfl⟩:=H;go_enter Tryz.func35,Tryz.ntmps35
   go_wp2_with (first|((with_reducible refine zB (f:=66) rfl ?_);refine jG 8 Tryz.func66 #[.string a0,.string (⟨#[115,104,97,49,58]⟩:ByteArray)] (strings_CutPrefix.calls a0 (⟨#[115,104,97,49,58]⟩:ByteArray) t454 true _ A2.out) ?_;rintro w' ⟨nd,rfl⟩)|((with_reducible refine zB (f:=67) rfl ?_);refine jG 19 Tryz.func67 #[.string t454] (wF.calls k t454 t456 t457 _ A5.out) ?_;rintro w6 hb;replace HB:=am_ (kA zz0 hb);(try clear hb)))
   go_ret2
   exact⟨zz1,zz0⟩
  ·rw[if_neg c4]at H;have c4b0:((t454.size:Int)==32)=false:=beq_eq_false_iff_ne.mpr c4;have c4b1:((t454.size:Int)!=32)=true:=bne_iff_ne.mpr c4;simp only[Option.some.injEq,Prod.mk.injEq]at H;obtain⟨rfl,rfl⟩:=H;go_enter Tryz.func35,Tryz.ntmps35
   go_wp2_with (first|((with_reducible refine zB (f:=66) rfl ?_);refine jG 8 Tryz.func66 #[.string a0,.string (⟨#[115,104,97,49,58]⟩:ByteArray)] (strings_CutPrefix.calls a0 (⟨#[115,104,97,49,58]⟩:ByteArray) t454 true _ A2.out) ?_;rintro w' ⟨nd,rfl⟩))
   go_ret2
   exact⟨zz1,zz0⟩
 ·replace c3:=bf_ c3;subst c3;rw[if_neg ft_]at H;simp only[Option.some.injEq,Prod.mk.injEq]at H;obtain⟨rfl,rfl⟩:=H;go_enter Tryz.func35,Tryz.ntmps35
  go_wp2_with (first|((with_reducible refine zB (f:=66) rfl ?_);refine jG 8 Tryz.func66 #[.string a0,.string (⟨#[115,104,97,49,58]⟩:ByteArray)] (strings_CutPrefix.calls a0 (⟨#[115,104,97,49,58]⟩:ByteArray) t454 false _ A2.out) ?_;rintro w' ⟨nd,rfl⟩))
  go_ret2
  exact⟨zz1,zz0⟩
def jS.f (a0:Int):Option (Bool):=(vC.f a0 0 253402300799).bind fun t458=>(some t458)
theorem jS.calls (a0:Int) (r:Bool) (w:World) (h:jS.f a0=some r):
  Calls Tryz.prog 36 #[.int .i64 a0] w fun e w'=>e= .returned (.bool r)∧wI w w':=by
 have H:((vC.f a0 0 253402300799).bind fun t458=>(some t458))=some r:=h;clear h;replace H:=be_ H;obtain⟨t458,A20,H⟩:=H;(try dsimp only at H);have A2:=am_ A20;clear A20;obtain rfl:=si_ H;go_enter Tryz.func36,Tryz.ntmps36
 go_wp2_with (first|((with_reducible refine zB (f:=40) rfl ?_);refine jG 4 Tryz.func40 #[.int .i64 a0,.int .i64 0,.int .i64 253402300799] (vC.calls a0 0 253402300799 t458 _ A2.out) ?_;rintro w' ⟨nd,rfl⟩))
 go_ret;exact⟨vB,zz4⟩
def jZ.f (a0:Int):Option (Bool):=if a0=0 then(some true)else(some (a0==1))
theorem jZ.calls (a0:Int) (r:Bool) (w:World) (h:jZ.f a0=some r):
  Calls Tryz.prog 37 #[.int .i64 a0] w fun e w'=>e= .returned (.bool r)∧wI w w':=by
 have H:(if a0=0 then(some true)else(some (a0==1)))=some r:=h;clear h
 by_cases c2:a0=0
 ·rw[if_pos c2]at H;have c2b0:(a0==0)=true:=beq_iff_eq.mpr c2;have c2b1:(a0 !=0)=false:=bne_eq_false_iff_eq.mpr c2;clear c2;obtain rfl:=si_ H;go_enter Tryz.func37,Tryz.ntmps37
  go_wp2
  go_ret;exact⟨vB,zz4⟩
 ·rw[if_neg c2]at H;have c2b0:(a0==0)=false:=beq_eq_false_iff_ne.mpr c2;have c2b1:(a0 !=0)=true:=bne_iff_ne.mpr c2;obtain rfl:=si_ H;go_enter Tryz.func37,Tryz.ntmps37
  go_wp2
  go_ret;exact⟨vB,zz4⟩
def wS.f (a0:Int):Option (Bool):=(xQ.f a0).bind fun t459=>(if t459=true then(some true)else((qT.f a0).bind fun t460=>(if t460=true then(some true)else((kL.f a0).bind fun t461=>(if t461=true then(some true)else(if a0=96 then(some true)else((strings_IndexByte.f (⟨#[33,35,36,37,38,39,42,43,45,46,94,95,124,126]⟩:ByteArray) a0).bind fun t462=>(some (decide (t462≥0))))))))))
theorem wS.calls (a0:Int) (r:Bool) (w:World) (h:wS.f a0=some r):
  Calls Tryz.prog 107 #[.int .u8 a0] w fun e w'=>e= .returned (.bool r)∧wI w w':=by
 have H:((xQ.f a0).bind fun t459=>(if t459=true then(some true)else((qT.f a0).bind fun t460=>(if t460=true then(some true)else((kL.f a0).bind fun t461=>(if t461=true then(some true)else(if a0=96 then(some true)else((strings_IndexByte.f (⟨#[33,35,36,37,38,39,42,43,45,46,94,95,124,126]⟩:ByteArray) a0).bind fun t462=>(some (decide (t462≥0)))))))))))=some r:=h;clear h;replace H:=be_ H;obtain⟨t459,A20,H⟩:=H;(try dsimp only at H);have A2:=am_ A20;clear A20;have HC3:=am_ H;clear H;go_enter Tryz.func107,Tryz.ntmps107
 repeat' (first|(go_big_may;(first|((with_reducible refine zB (f:=134) rfl ?_);refine jG 4 Tryz.func134 #[.int .u8 a0] (xQ.calls a0 t459 _ A2.out) ?_;rintro w' ⟨nd,rfl⟩)))|go_values|go_skip|go_big_skip|go_big_want|((first|(with_reducible refine wE rfl ?_)|(fail_if_success with_reducible refine yE ?_));go_step)|go_upon|simp only[Bool.not_true,Bool.not_false,Bool.true_and,Bool.false_and,Bool.true_or,Bool.false_or]|dsimp only)
 (try simp only[Act.put,List.setIfInBounds_toArray,List.set_cons_zero,List.set_cons_succ]);have H:=HC3.out;clear HC3
 by_cases c4:t459=true
 ·subst c4;rw[if_pos rfl]at H;obtain rfl:=si_ H;go_wp2
  go_ret;exact⟨vB,zz4⟩
 ·replace c4:=bf_ c4;subst c4;rw[if_neg ft_]at H;replace H:=be_ H;obtain⟨t460,A50,H⟩:=H;(try dsimp only at H);have A5:=am_ A50;clear A50;have HC6:=am_ H;clear H
  repeat' (first|(go_big_may;(first|(go_at_call 141;(with_reducible refine(qT.calls a0 t460 _ A5.out).mono ?_);rintro e w' ⟨rfl,⟨nd,rfl⟩⟩)))|go_values|go_skip|go_big_skip|go_big_want|((first|(with_reducible refine wE rfl ?_)|(fail_if_success with_reducible refine yE ?_));go_step)|go_upon|simp only[Bool.not_true,Bool.not_false,Bool.true_and,Bool.false_and,Bool.true_or,Bool.false_or]|dsimp only)
  (try simp only[Act.put,List.setIfInBounds_toArray,List.set_cons_zero,List.set_cons_succ]);have H:=HC6.out;clear HC6
  by_cases c7:t460=true
  ·subst c7;rw[if_pos rfl]at H;obtain rfl:=si_ H;go_wp2
   go_ret;exact⟨vB,zz4⟩
  ·replace c7:=bf_ c7;subst c7;rw[if_neg ft_]at H;replace H:=be_ H;obtain⟨t461,A80,H⟩:=H;(try dsimp only at H);have A8:=am_ A80;clear A80;have HC9:=am_ H;clear H
   repeat' (first|(go_big_may;(first|(go_at_call 82;(with_reducible refine(kL.calls a0 t461 _ A8.out).mono ?_);rintro e w' ⟨rfl,⟨nd,rfl⟩⟩)))|go_values|go_skip|go_big_skip|go_big_want|((first|(with_reducible refine wE rfl ?_)|(fail_if_success with_reducible refine yE ?_));go_step)|go_upon|simp only[Bool.not_true,Bool.not_false,Bool.true_and,Bool.false_and,Bool.true_or,Bool.false_or]|dsimp only)
   (try simp only[Act.put,List.setIfInBounds_toArray,List.set_cons_zero,List.set_cons_succ]);have H:=HC9.out;clear HC9
   by_cases c10:t461=true
   ·subst c10;rw[if_pos rfl]at H;obtain rfl:=si_ H;go_wp2
    go_ret;exact⟨vB,zz4⟩
   ·replace c10:=bf_ c10;subst c10;rw[if_neg ft_]at H
    by_cases c11:a0=96
    ·rw[if_pos c11]at H;have c11b0:(a0==96)=true:=beq_iff_eq.mpr c11;have c11b1:(a0 !=96)=false:=bne_eq_false_iff_eq.mpr c11;clear c11;(first|rw[c11b0]|(simp only[yC,qD];rw[c11b0])|rw[c11b1]|(rw[c11b2];simp only[Bool.not_true,Bool.not_false])|skip);obtain rfl:=si_ H;go_wp2
     go_ret;exact⟨vB,zz4⟩
    ·rw[if_neg c11]at H;have c11b0:(a0==96)=false:=beq_eq_false_iff_ne.mpr c11;have c11b1:(a0 !=96)=true:=bne_iff_ne.mpr c11;(first|rw[c11b0]|(simp only[yC,qD];rw[c11b0])|rw[c11b1]|(rw[c11b2];simp only[Bool.not_true,Bool.not_false])|skip);replace H:=be_ H;obtain⟨t462,A120,H⟩:=H;(try dsimp only at H);have A12:=am_ A120;clear A120;obtain rfl:=si_ H;go_wp2_with (first|(go_at_call 105;(with_reducible refine(strings_IndexByte.calls (⟨#[33,35,36,37,38,39,42,43,45,46,94,95,124,126]⟩:ByteArray) a0 t462 _ A12.out).mono ?_);rintro e w' ⟨rfl,⟨nd,rfl⟩⟩))
     go_ret;exact⟨vB,zz4⟩
def jF.l0:Nat→ByteArray→Int→Option (Bool)
 |0,_,_=>none
 |k+1,x0,x5=>if x5<(x0.size:Int)then(if 0≤x5 then((wS.f (bt x0 x5)).bind fun t463=>(if t463=true then(jF.l0 k x0 (wrap64 (x5+1)))else(some false)))else(none))else(some true)
def jF.f (k:Nat) (a0:ByteArray):Option (Bool):=jF.l0 k a0 0
theorem jF.calls (k:Nat) (a0:ByteArray) (r:Bool) (w:World) (h:jF.f k a0=some r):
  Calls Tryz.prog 81 #[.string a0,.func (.func 107) #[] #[]] w fun e w'=>e= .returned (.bool r)∧wI w w':=by
 have H:(jF.l0 k a0 0)=some r:=h;clear h;have H':=am_ H;clear H;go_enter Tryz.func81,Tryz.ntmps81
 go_wp2
 go_loopg [5] k (fun kq v5 w'=> ∃(x5_1:Int),v5= .int .i64 x5_1∧wA (jF.l0 kq a0 x5_1=some r)∧wA (kq≤k)∧wI w w')
 case atStart=>exact⟨(0),vB,H',⟨Nat.le_refl _⟩,zz4⟩
 case round=>
  clear H';obtain⟨x5_1,rfl,HA,HK1,⟨m1,rfl⟩⟩:=hrel
  cases gk with
  |zero=>exact absurd HA.out (by simp[jF.l0])
  |succ k1=>
   have H:=HA.out;clear HA;simp only[jF.l0]at H
   by_cases c2:x5_1<(a0.size:Int)
   ·rw[if_pos c2]at H;have c2b0:=dt_ c2;clear c2
    by_cases c3:0≤x5_1
    ·rw[if_pos c3]at H;have c3b0:=dt_ c3;clear c3;replace H:=be_ H;obtain⟨t463,A50,H⟩:=H;(try dsimp only at H);have A5:=am_ A50;clear A50;have HC6:=am_ H;clear H;have p4:0≤(x5_1:Int):=od_ zz5;have q4:x5_1<(a0.size:Int):=od_ zz5;have hx4:=wP a0 x5_1;replace p4:=eq_true p4;replace q4:=eq_true q4;go_upto_if 17 with(first|(go_at_call 107;(with_reducible refine(wS.calls (bt a0 x5_1) t463 _ A5.out).mono ?_);rintro e w' ⟨rfl,⟨nd,rfl⟩⟩))
     (try simp only[Act.put,List.setIfInBounds_toArray,List.set_cons_zero,List.set_cons_succ]);have H:=HC6.out;clear HC6
     by_cases c7:t463=true
     ·subst c7;rw[if_pos rfl]at H;have H':=am_ H;clear H;go_wp2
      go_roundg k1
      (case measure=>have:=HK1.out;omega);case rel=>exact⟨(wrap64 (x5_1+1)),vB,H',⟨aJ5⟩,zz4⟩
     ·replace c7:=bf_ c7;subst c7;rw[if_neg ft_]at H;obtain rfl:=si_ H;go_wp2
      go_ret;exact⟨vB,zz4⟩
    ·rw[if_neg c3]at H;exact absurd H (by simp)
   ·rw[if_neg c2]at H;have c2b0:=df_ c2;clear c2;obtain rfl:=si_ H;go_wp2
    go_ret;exact⟨vB,zz4⟩
def aX1.f (k:Nat) (a0:ByteArray):Option (Bool):=(vC.f (a0.size:Int) 1 4000).bind fun t464=>(if t464=true then((jF.f k a0).bind fun t465=>(some t465))else(some false))
theorem aX1.calls (k:Nat) (a0:ByteArray) (r:Bool) (w:World) (h:aX1.f k a0=some r):
  Calls Tryz.prog 68 #[.string a0] w fun e w'=>e= .returned (.bool r)∧wI w w':=by
 have H:((vC.f (a0.size:Int) 1 4000).bind fun t464=>(if t464=true then((jF.f k a0).bind fun t465=>(some t465))else(some false)))=some r:=h;clear h;replace H:=be_ H;obtain⟨t464,A20,H⟩:=H;(try dsimp only at H);have A2:=am_ A20;clear A20;have HC3:=am_ H;clear H;go_enter Tryz.func68,Tryz.ntmps68
 repeat' (first|(go_big_may;(first|((with_reducible refine zB (f:=40) rfl ?_);refine jG 5 Tryz.func40 #[.int .i64 (a0.size:Int),.int .i64 1,.int .i64 4000] (vC.calls (a0.size:Int) 1 4000 t464 _ A2.out) ?_;rintro w' ⟨nd,rfl⟩)))|go_values|go_skip|go_big_skip|go_big_want|((first|(with_reducible refine wE rfl ?_)|(fail_if_success with_reducible refine yE ?_));go_step)|go_upon|simp only[Bool.not_true,Bool.not_false,Bool.true_and,Bool.false_and,Bool.true_or,Bool.false_or]|dsimp only)
 (try simp only[Act.put,List.setIfInBounds_toArray,List.set_cons_zero,List.set_cons_succ]);have H:=HC3.out;clear HC3
 by_cases c4:t464=true
 ·subst c4;rw[if_pos rfl]at H;replace H:=be_ H;obtain⟨t465,A50,H⟩:=H;(try dsimp only at H);have A5:=am_ A50;clear A50;obtain rfl:=si_ H;go_wp2_with (first|(go_at_call 81;(with_reducible refine(jF.calls k a0 t465 _ A5.out).mono ?_);rintro e w' ⟨rfl,⟨nd,rfl⟩⟩))
  go_ret;exact⟨vB,zz4⟩
 ·replace c4:=bf_ c4;subst c4;rw[if_neg ft_]at H;obtain rfl:=si_ H;go_wp2
  go_ret;exact⟨vB,zz4⟩
def vV.f (k:Nat) (a0:ByteArray):Option (Bool):=(aX1.f k a0).bind fun t466=>(if t466=true then(some (decide ((a0.size:Int)≤20)))else(some false))
theorem vV.calls (k:Nat) (a0:ByteArray) (r:Bool) (w:World) (h:vV.f k a0=some r):
  Calls Tryz.prog 38 #[.string a0] w fun e w'=>e= .returned (.bool r)∧wI w w':=by
 have H:((aX1.f k a0).bind fun t466=>(if t466=true then(some (decide ((a0.size:Int)≤20)))else(some false)))=some r:=h;clear h;replace H:=be_ H;obtain⟨t466,A20,H⟩:=H;(try dsimp only at H);have A2:=am_ A20;clear A20;have HC3:=am_ H;clear H;go_enter Tryz.func38,Tryz.ntmps38
 repeat' (first|(go_big_may;(first|((with_reducible refine zB (f:=68) rfl ?_);refine jG 4 Tryz.func68 #[.string a0] (aX1.calls k a0 t466 _ A2.out) ?_;rintro w' ⟨nd,rfl⟩)))|go_values|go_skip|go_big_skip|go_big_want|((first|(with_reducible refine wE rfl ?_)|(fail_if_success with_reducible refine yE ?_));go_step)|go_upon|simp only[Bool.not_true,Bool.not_false,Bool.true_and,Bool.false_and,Bool.true_or,Bool.false_or]|dsimp only)
 (try simp only[Act.put,List.setIfInBounds_toArray,List.set_cons_zero,List.set_cons_succ]);have H:=HC3.out;clear HC3
 by_cases c4:t466=true
 ·subst c4;rw[if_pos rfl]at H;obtain rfl:=si_ H;go_wp2
  go_ret;exact⟨vB,zz4⟩
 ·replace c4:=bf_ c4;subst c4;rw[if_neg ft_]at H;obtain rfl:=si_ H;go_wp2
  go_ret;exact⟨vB,zz4⟩
end Go.Proofs.YteojcbbifacpnaaGreatDoor.GFnExactReadLine
